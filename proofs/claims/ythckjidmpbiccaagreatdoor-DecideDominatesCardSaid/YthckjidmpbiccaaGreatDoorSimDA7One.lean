/- Sim: facts of function 99 (gameplayer/check.Rule). Printed by a program (SimF3.lean). -/
import Derived.Test.YthckjidmpbiccaaGreatDoorSimDA6One
set_option linter.unusedVariables false
set_option linter.unusedSimpArgs false
set_option linter.all false
namespace Go.Proofs.YthckjidmpbiccaaGreatDoor
open Go Go.Sim
noncomputable def jS:List (Nat×FO):=[(3,.blk true 40 [z14,Z1,bt,bt,z18,Z1,bt,bf,z0,Z1,bf,bt,z3,Z2,bf,bt,z2,Z2,bt,bf,z5,Z1,bt,bf,z23,Z0,bt,bf,z19,Z2,bt,bf,z20,Z2,bt,bf,z27,Z2,bf,bt])]
noncomputable def aeY:List Fact:=[⟨[(.agg [z14,Z7,.aj])],jS++[(8,Y9)],9,Z0,[],[3,8],[],72⟩,⟨[(.agg [z14,Z7,.aj])],jS++[(8,Ya)],9,Z0,[],[3,8],[],62⟩,⟨[(.agg [z18,Z7,.aj])],jS++[(8,Y3m),(9,Y2)],10,Z0,[],[3,8,9],[],71⟩,⟨[Z89],jS++[(8,Yf),(9,Y2c),(10,Y0),(11,Y21),(12,Y2)],13,Z0,[],[3,8,9,10,11,12],[],173⟩,⟨[Z89],jS++[(8,Yf),(9,Y2c),(10,Y1),(11,Y21),(12,Y2)],13,Z0,[],[3,8,9,10,11,12],[],173⟩,⟨[Z89],jS++[(8,Y6),(9,Y4t),(10,Ye),(11,Y2)],12,Z0,[],[3,8,9,10,11],[],152⟩,⟨[Z89],jS++[(8,Yk),(9,Y2c),(10,Y0),(11,Y21),(12,Y3)],13,Z0,[],[3,8,9,10,11,12],[],169⟩,⟨[Z89],jS++[(8,Yk),(9,Y2c),(10,Y1),(11,Y21),(12,Y3)],13,Z0,[],[3,8,9,10,11,12],[],169⟩,⟨[Z89],jS++[(8,Y8),(9,Y4t),(10,Ye),(11,Y3)],12,Z0,[],[3,8,9,10,11],[],157⟩,⟨[Z8j],jS++[(8,Ym),(9,bk 3 [bf,z3,Z6u]),(10,Y7),(11,bk 4 [z6,.aj,z9,Zk]),(12,Y7)],13,Z0,[],[3,8,9,10,11,12],[],186⟩,⟨[Z8j],jS++[(8,Yc),(9,Y2c),(10,Y3),(11,Y21),(12,Y2)],13,Z0,[],[3,8,9,10,11,12],[],141⟩,⟨[Z8j],jS++[(8,Yc),(9,Y2c),(10,Y4),(11,Y21),(12,Y3)],13,Z0,[],[3,8,9,10,11,12],[],141⟩,⟨[(.agg [z5,Z7,(sn 9 3 2)])],jS++[(8,Y5),(9,bk 6 [bf,z0,Z6,bf,z3,Z6u]),(10,bk 2 [z11,Zk]),(11,bk 4 [z4,.aj,z10,Zu]),(12,Y7),(13,Y7)],14,Z0,[],[3,8,9,10,11,12,13],[],235⟩,⟨[(.agg [z23,.aj,(sn 8 3 1)])],jS++[(8,bk 3 [bf,z0,Zc]),(9,Yc),(10,Y4)],11,Z0,[],[3,8,9,10],[],126⟩,⟨[(.agg [z19,Za,Z3t])],jS++[(8,Yl),(9,Y4t),(10,Y5)],11,Z0,[],[3,8,9,10],[],137⟩]
theorem dA7_0_ok:List.all aeY (bI T aaP 8 1000 1000 99)=true:=by kernel_rfl
noncomputable def aaW:List (Nat×FO):=[(3,.blk true 40 [z14,Z1,bt,bt,z18,Z1,bt,bf,z0,Z1,bf,bt,z3,Z2,bf,bt,z2,Z2,bt,bf,z5,Z1,bt,bf,z23,Z0,bt,bf,z19,Z2,bt,bf,z20,Z2,bt,bf,z27,Z2,bf,bt])]
noncomputable def aeX:List Fact:=[⟨[(.agg [z19,Za,(sn 9 3 2)])],aaW++[(8,Yh),(9,bk 6 [bf,z0,Z6,bt,z0,Z8]),(10,Y21),(11,Y5),(12,Y4)],13,Z0,[],[3,8,9,10,11,12],[],202⟩,⟨[(.agg [z20,Za,Z3t])],aaW++[(8,Yg),(9,bk 3 [bf,z3,(sn 10 2 2)]),(10,Yz),(11,Y7)],12,Z0,[],[3,8,9,10,11],[],191⟩]
theorem dA7_1_ok:List.all aeX (bI T aaP 8 1000 1000 99)=true:=by kernel_rfl
noncomputable def ain:Nat→Option FC:=ovl T 8 99 agH (aeY++(aeX)) aaP
set_option maxRecDepth 100000 in
theorem aiI (w0:World):dJ Tryz.prog T w0 8 ain:=bT (agr w0) (gy (aK hT (agr w0) (b99 w0 8) dA7_0_ok) (aK hT (agr w0) (b99 w0 8) dA7_1_ok)) (b99 w0 8)
end Go.Proofs.YthckjidmpbiccaaGreatDoor
