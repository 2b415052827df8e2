/- Sim: facts of function 115 ((*gameplayer/compile.compiler).outputs). Printed by a program (SimF3.lean). -/
import Derived.Test.YthckjidmpbiccaaGreatDoorSimDA11And
set_option linter.unusedVariables false
set_option linter.unusedSimpArgs false
set_option linter.all false
namespace Go.Proofs.YthckjidmpbiccaaGreatDoor
open Go Go.Sim
noncomputable def WU:List Fact:=[⟨[Z1c,(pt 9)],[(8,bk 6 [(sn 10 2 30),(sn 11 3 20),(sc 12 1 0 30 30),(sn 13 3 20),(.map ⟨14⟩),(.map ⟨15⟩)]),(9,bk 11 [.aj,Z1q,(sn 17 2 6),(sn 18 3 6),.aj,.aj,.aj,.aj,.aj,Z0,bt]),(10,bk 60 [z23,.aj,z18,Z3o,z5,Z3v,z5,Z3c,z5,Z3w,z5,Z38,z5,Z1i,z14,Z10,z14,Z12,z0,Zv,z0,Zs,z0,Zw,z0,Zt,z0,Zx,z0,Z1d,z3,Z3p,z3,Z2h,z3,Z3q,z3,Z2w,z3,Z3r,z3,Z2x,z19,Z75,z19,(sn 40 2 2),z2,(sn 41 2 2),z2,(sn 42 2 2),z2,(sn 43 2 2),z2,Z4a,z2,Z4b,z2,Z3y,z20,Z3z]),(14,.map 3 [(Zj,Z2),(Zl,Z5),(Zy,Z3),(Zh,Z4),(Zi,Z9),(Zp,Zd),(Zz,Zf),(Zo,Zj),(Z1b,Zl),(Z31,Zy),(Z1r,Zh),(Z3k,Zi),(Z1,Z1),(Zd,Z1),(Zf,Z1),(Z4,Z4),(Z9,Z9),(Z0,Zd),(Z5,Zj),(Z3,Zl),(Z2,Zo),(Z3n,Z31),(Z35,Z2),(Z1w,Z9),(Z21,Z4),(Z22,Z4),(Z23,Z4),(Z1v,Z9),(Z24,Z9),(Z2n,Z1r)]),(16,Yd),(17,bk 12 [z17,.aj,z11,Z40,z11,Z41,z1,Z4t,z1,Z59,z1,Z4c]),(18,bk 18 [Z0,z13,.aj,Z0,z9,Z42,Z0,z9,Z3s,Z1,z13,.aj,Z1,z10,Z3h,Z1,z10,Z3e]),(20,Y5),(21,bk 2 [z11,Z3g]),(22,Y2z),(23,bk 2 [z1,Z2a]),(24,Y22),(39,Yh),(40,Yl),(41,Y8),(42,Y4z),(43,Y50),(44,Y6),(45,Y45),(46,Y38),(47,Yg),(48,Y0),(49,Y1),(50,Y2),(51,Y3),(52,Y4),(53,Y0),(54,Y1),(55,Y0),(56,Y1),(57,Y0),(58,Y1),(59,Y3),(60,Y4),(61,Y0),(62,Y1),(63,Y0),(64,Y1)],65,(.tup []),[9],[8,10,14,16,17,18,20,21,22,23,24,39,40,41,42,43,44,45,46,47,48,49,50,51,52,53,54,55,56,57,58,59,60,61,62,63,64],[(9,bk 11 [.aj,Z1q,(sn 17 2 6),(sn 18 3 6),.aj,(sn 858 1 6),(sn 2773 1 6),(sn 3417 5 2),(sn 3767 5 1),Zd,bt]),(858,Y18),(2773,Y19),(3417,Y1a),(3767,Y1b)],3783⟩]
theorem dA13_0_ok:List.all WU (bI T YH 8 1000 1000 115)=true:=by kernel_rfl
noncomputable def YG:Nat→Option FC:=ovl T 8 115 VT (WU) YH
set_option maxRecDepth 100000 in
theorem abk (w0:World):dJ Tryz.prog T w0 8 YG:=bT (abl w0) (aK hT (abl w0) (aia w0 8) dA13_0_ok) (aia w0 8)
end Go.Proofs.YthckjidmpbiccaaGreatDoor
