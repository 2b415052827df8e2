/- Sim: facts of function 114 (gameplayer/check.Rule). Printed by a program (SimF3.lean). -/
import Derived.Test.YtpmapognbdiahaaGreatDoorSimDA6One
set_option linter.all false
namespace Go.Proofs.YtpmapognbdiahaaGreatDoor
open Go Go.Sim
noncomputable def jW:List (Nat×FO):=[(1,.blk true 40 [z13,Z1,bt,bt,z17,Z1,bt,bf,z0,Z1,bf,bt,z3,Z2,bf,bt,z1,Z2,bt,bf,z5,Z1,bt,bf,z21,Z0,bt,bf,z18,Z2,bt,bf,z20,Z2,bt,bf,z27,Z2,bf,bt])]
noncomputable def adh:List Fact:=[⟨[(.agg [z13,Z4,.aj])],jW++[(6,Y9)],7,Z0,[],[1,6],[],70⟩,⟨[(.agg [z13,Z4,.aj])],jW++[(6,Ya)],7,Z0,[],[1,6],[],60⟩,⟨[(.agg [z17,Z4,.aj])],jW++[(6,Y3c),(7,Y2)],8,Z0,[],[1,6,7],[],69⟩,⟨[Z7w],jW++[(6,Yd),(7,Y27),(8,Y0),(9,Y1w),(10,Y2)],11,Z0,[],[1,6,7,8,9,10],[],171⟩,⟨[Z7w],jW++[(6,Yd),(7,Y27),(8,Y1),(9,Y1w),(10,Y2)],11,Z0,[],[1,6,7,8,9,10],[],171⟩,⟨[Z7w],jW++[(6,Y6),(7,Y4j),(8,Yc),(9,Y2)],10,Z0,[],[1,6,7,8,9],[],150⟩,⟨[Z7w],jW++[(6,Yi),(7,Y27),(8,Y0),(9,Y1w),(10,Y3)],11,Z0,[],[1,6,7,8,9,10],[],167⟩,⟨[Z7w],jW++[(6,Yi),(7,Y27),(8,Y1),(9,Y1w),(10,Y3)],11,Z0,[],[1,6,7,8,9,10],[],167⟩,⟨[Z7w],jW++[(6,Y8),(7,Y4j),(8,Yc),(9,Y3)],10,Z0,[],[1,6,7,8,9],[],155⟩,⟨[Z86],jW++[(6,Yk),(7,bk 3 [bf,z3,(sn 9 2 2)]),(8,Y7),(9,bk 4 [z6,.aj,z9,Zg]),(10,Y7)],11,Z0,[],[1,6,7,8,9,10],[],184⟩,⟨[Z86],jW++[(6,Yb),(7,Y27),(8,Y3),(9,Y1w),(10,Y2)],11,Z0,[],[1,6,7,8,9,10],[],139⟩,⟨[Z86],jW++[(6,Yb),(7,Y27),(8,Y4),(9,Y1w),(10,Y3)],11,Z0,[],[1,6,7,8,9,10],[],139⟩,⟨[(.agg [z5,Z4,(sn 7 3 2)])],jW++[(6,Y5),(7,bk 6 [bf,z0,Z3,bf,z3,(sn 9 2 2)]),(8,bk 2 [z12,Zg]),(9,bk 4 [z4,.aj,z11,Zp]),(10,Y7),(11,Y7)],12,Z0,[],[1,6,7,8,9,10,11],[],233⟩,⟨[(.agg [z21,.aj,(sn 6 3 1)])],jW++[(6,bk 3 [bf,z0,Zc]),(7,Yb),(8,Y4)],9,Z0,[],[1,6,7,8],[],124⟩,⟨[(.agg [z18,Z9,Z3g])],jW++[(6,Yj),(7,Y4j),(8,Y5)],9,Z0,[],[1,6,7,8],[],135⟩]
theorem dA7_0_ok:List.all adh (bZ T ZM 6 1000 1000 114)=true:=by kernel_rfl
noncomputable def aad:List (Nat×FO):=[(1,.blk true 40 [z13,Z1,bt,bt,z17,Z1,bt,bf,z0,Z1,bf,bt,z3,Z2,bf,bt,z1,Z2,bt,bf,z5,Z1,bt,bf,z21,Z0,bt,bf,z18,Z2,bt,bf,z20,Z2,bt,bf,z27,Z2,bf,bt])]
noncomputable def adg:List Fact:=[⟨[(.agg [z18,Z9,(sn 7 3 2)])],aad++[(6,Yf),(7,bk 6 [bf,z0,Z3,bt,z0,Z7]),(8,Y1w),(9,Y5),(10,Y4)],11,Z0,[],[1,6,7,8,9,10],[],200⟩,⟨[(.agg [z20,Z9,Z3g])],aad++[(6,Ye),(7,bk 3 [bf,z3,(sn 8 2 2)]),(8,Yp),(9,Y7)],10,Z0,[],[1,6,7,8,9],[],189⟩]
theorem dA7_1_ok:List.all adg (bZ T ZM 6 1000 1000 114)=true:=by kernel_rfl
noncomputable def agO:Nat→Option FC:=ovl T 6 114 U6 (adh++(adg)) ZM
set_option maxRecDepth 100000 in
theorem ahq (w0:WM):dY Tryz.prog T w0 6 agO:=dD (aeY w0) (gJ (aP hT (aeY w0) (ZK w0 6) dA7_0_ok) (aP hT (aeY w0) (ZK w0 6) dA7_1_ok)) (ZK w0 6)
end Go.Proofs.YtpmapognbdiahaaGreatDoor
