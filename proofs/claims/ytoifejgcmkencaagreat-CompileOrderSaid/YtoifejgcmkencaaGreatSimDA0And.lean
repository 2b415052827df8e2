/- Sim: facts of function 18 (gameplayer/ground.Valid). Printed by a program (SimF3.lean). -/
import Derived.Test.YtoifejgcmkencaaGreatSimFtOne
import Derived.Test.YtoifejgcmkencaaGreatSimStrOne
set_option linter.unusedVariables false
set_option linter.unusedSimpArgs false
set_option linter.all false
namespace Go.Proofs.YtoifejgcmkencaaGreat
open Go Go.Sim
noncomputable def Yl:List Fact:=[⟨[Zi],[(1,bk 14 [(.str 1 112),.aJ,(.str 1 113),.aJ,z3,.aJ,z4,Z9,z5,Za,z6,(sn 5 2 2),z7,Zb]),(2,Y6),(3,Y0),(4,Y0),(5,Y2),(6,Y2),(7,Y4),(8,Y1),(9,Y3),(10,Y3),(11,Y5),(12,Y1)],13,bt,[],[1,2,3,4,5,6,7,8,9,10,11,12],[],250⟩]
theorem dA0_0_ok:List.all Yl (xU T FF 1 1000 1000 18)=true:=by kernel_rfl
noncomputable def abf:Nat→Option FC:=ovl T 1 18 ZH (Yl) FF
set_option maxRecDepth 100000 in
theorem abz (w0:World):tX Tryz.prog T w0 1 abf:=CS (hF w0) (kE hT (hF w0) (b18 w0 1) dA0_0_ok) (b18 w0 1)
end Go.Proofs.YtoifejgcmkencaaGreat
namespace Go.Proofs.YtoifejgcmkencaaGreat
open Go Go.Sim
noncomputable def Yk:List Fact:=[⟨[Zi],[(1,bk 14 [(.str 1 112),.aJ,(.str 1 113),.aJ,z3,.aJ,z4,Z9,z5,Za,z6,(sn 5 2 2),z7,Zb]),(2,Y6),(3,Y0),(4,Y0),(5,Y2),(6,Y2),(7,Y4),(8,Y1),(9,Y3),(10,Y3),(11,Y5),(12,Y1)],13,(sn 325 1 6),[],[1,2,3,4,5,6,7,8,9,10,11,12],[(325,bk 6 [(sn 299 1 1),(sn 305 1 2),(sn 309 1 1),(sn 315 1 1),(sn 319 1 1),(sn 323 1 1)]),(299,Y1),(305,bk 2 [Z0,Z1]),(309,bk 1 [Z3]),(315,bk 1 [Z4]),(319,bk 1 [Z5]),(323,bk 1 [Z6])],326⟩]
theorem dA1_0_ok:List.all Yk (xU T abf 1 1000 1000 7)=true:=by kernel_rfl
noncomputable def abe:Nat→Option FC:=ovl T 1 7 fe7 (Yk) abf
set_option maxRecDepth 100000 in
theorem aby (w0:World):tX Tryz.prog T w0 1 abe:=CS (abz w0) (kE hT (abz w0) (b7 w0 1) dA1_0_ok) (b7 w0 1)
end Go.Proofs.YtoifejgcmkencaaGreat
namespace Go.Proofs.YtoifejgcmkencaaGreat
open Go Go.Sim
noncomputable def Yj:List Fact:=[⟨[Zi,Z9,bf],[(1,bk 14 [(.str 1 112),.aJ,(.str 1 113),.aJ,z3,.aJ,z4,Za,z5,(sn 5 2 1),z6,Zb,z7,(sn 7 2 2)]),(2,bk 18 [Z0,Zc,.aJ,Z1,.aJ,Zd,Z1,Ze,.aJ,Z3,(sc 11 1 0 1 1),.aJ,Z5,(sc 12 1 0 2 2),.aJ,Z6,(sc 13 1 0 1 1),.aJ]),(3,Y7),(4,Y0),(5,Y0),(6,Y2),(7,Y2),(8,Y4),(9,Y1),(10,Y3),(11,Y3),(12,Y5),(13,Y1)],14,(.tup [(i6 34),Z0]),[],[1,2,3,4,5,6,7,8,9,10,11,12,13],[],1043⟩]
theorem dA2_0_ok:List.all Yj (xU T abe 1 1000 1000 15)=true:=by kernel_rfl
noncomputable def abd:Nat→Option FC:=ovl T 1 15 ZJ (Yj) abe
set_option maxRecDepth 100000 in
theorem abx (w0:World):tX Tryz.prog T w0 1 abd:=CS (aby w0) (kE hT (aby w0) (b15 w0 1) dA2_0_ok) (b15 w0 1)
end Go.Proofs.YtoifejgcmkencaaGreat
namespace Go.Proofs.YtoifejgcmkencaaGreat
open Go Go.Sim
noncomputable def Yi:List Fact:=[⟨[Zi],[(1,bk 14 [(.str 1 112),.aJ,(.str 1 113),.aJ,z3,.aJ,z4,Z9,z5,Za,z6,(sn 5 2 2),z7,Zb]),(2,Y6),(3,Y0),(4,Y0),(5,Y2),(6,Y2),(7,Y4),(8,Y1),(9,Y3),(10,Y3),(11,Y5),(12,Y1)],13,(.tup [(sc 408 1 0 7 7),Z0]),[],[1,2,3,4,5,6,7,8,9,10,11,12],[(408,bk 7 [Z1,Z1,Z1,Z0,Z0,Z0,Z0])],444⟩]
theorem dA3_0_ok:List.all Yi (xU T abd 1 1000 1000 32)=true:=by kernel_rfl
noncomputable def abb:Nat→Option FC:=ovl T 1 32 ZG (Yi) abd
set_option maxRecDepth 100000 in
theorem abw (w0:World):tX Tryz.prog T w0 1 abb:=CS (abx w0) (kE hT (abx w0) (b32 w0 1) dA3_0_ok) (b32 w0 1)
end Go.Proofs.YtoifejgcmkencaaGreat
namespace Go.Proofs.YtoifejgcmkencaaGreat
open Go Go.Sim
noncomputable def Yh:List Fact:=[⟨[Zi,Z9,bf],[(1,bk 14 [(.str 1 112),.aJ,(.str 1 113),.aJ,z3,.aJ,z4,Za,z5,(sn 5 2 1),z6,Zb,z7,(sn 7 2 2)]),(2,bk 18 [Z0,Zc,.aJ,Z1,.aJ,Zd,Z1,Ze,.aJ,Z3,(sc 11 1 0 1 1),.aJ,Z5,(sc 12 1 0 2 2),.aJ,Z6,(sc 13 1 0 1 1),.aJ]),(3,Y7),(4,Y0),(5,Y0),(6,Y2),(7,Y2),(8,Y4),(9,Y1),(10,Y3),(11,Y3),(12,Y5),(13,Y1)],14,(.tup [(.agg [(sn 1675 3 8),(sn 1075 2 1),(sn 1091 2 1),(sn 1119 3 1),.aJ,(sn 1749 1 1),(sn 1848 1 1),.aJ,.aJ,Z4,bf]),Z0]),[],[1,2,3,4,5,6,7,8,9,10,11,12,13],[(1675,bk 24 [Z0,Z0,.aJ,Z1,Z0,.aJ,Z3,Z0,.aJ,Z5,Z0,.aJ,Z6,Z0,(sc 1618 1 0 1 1),Z4,Z0,(sn 1631 1 2),Z4,Z0,(sn 1651 1 2),Z2,Z0,(sn 1673 1 2)]),(1075,Y7),(1091,Y0),(1119,bk 3 [Z0,z2,.aJ]),(1749,bk 1 [(i6 7)]),(1848,bk 1 [Z3]),(1618,bk 1 [Z3]),(1631,bk 2 [Z0,Z2]),(1651,bk 2 [Z0,Z2]),(1673,bk 2 [Z3,Z5])],2491⟩]
theorem dA4_0_ok:List.all Yh (xU T abb 1 1000 1000 16)=true:=by kernel_rfl
noncomputable def adC:Nat→Option FC:=ovl T 1 16 ZI (Yh) abb
set_option maxRecDepth 100000 in
theorem ad4 (w0:World):tX Tryz.prog T w0 1 adC:=CS (abw w0) (kE hT (abw w0) (b16 w0 1) dA4_0_ok) (b16 w0 1)
end Go.Proofs.YtoifejgcmkencaaGreat
namespace Go.Proofs.YtoifejgcmkencaaGreat
open Go Go.Sim
noncomputable def adb:List Fact:=[⟨[],[],1,bt,[],[],[],4008⟩]
theorem dA5_0_ok:List.all adb (xU T adC 1 1000 1000 6)=true:=by kernel_rfl
noncomputable def Qc:Fact:=⟨[],[],1,bt,[],[],[],4008⟩
theorem Xe (w0:World):uN Tryz.prog T w0 1 6 Qc:=kE hT (ad4 w0) (b6 w0 1) dA5_0_ok _ List.mem_cons_self
end Go.Proofs.YtoifejgcmkencaaGreat
