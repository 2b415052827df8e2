/- Sim: facts of function 107 (gameplayer/compile.Gates). Printed by a program (SimF3.lean). -/
import Derived.Test.YthckjidmpbiccaaGreatDoorSimDA10One
set_option linter.unusedVariables false
set_option linter.unusedSimpArgs false
set_option linter.all false
namespace Go.Proofs.YthckjidmpbiccaaGreatDoor
open Go Go.Sim
noncomputable def WW:List Fact:=[⟨[Z86,(sn 10 2 2),bt],[(8,Y40),(9,bk 60 [Z0,(sn 40 1 1),.aj,Z1,.aj,.aj,Z2,Z5z,.aj,Z2,(sn 42 1 2),.aj,Z5,Z60,.aj,Z3,Z61,.aj,Z4,Z62,.aj,Z9,Z63,.aj,Zd,.aj,.aj,Zf,.aj,.aj,Z3n,Z64,Z65,Z35,Z66,.aj,Z1w,Z67,.aj,Z21,Z68,.aj,Z22,Z69,.aj,Z23,Z6a,.aj,Z1v,Z6b,.aj,Z24,Z6c,.aj,Z2n,Z6d,.aj,Z2n,(sn 57 1 1),.aj]),(10,Yd),(11,Y41),(12,Y5),(13,Y30),(14,bk 2 [z11,Z1z]),(15,Y31),(16,Y42),(17,Y9),(18,Ya),(19,Y5),(20,Y32),(21,Y43),(22,Y1h),(23,Y15),(24,Y16),(25,Y8),(26,Y33),(27,Y1v),(28,Y6),(29,Y34),(30,Y4y),(31,Yh),(32,Yl),(33,Y8),(34,Y35),(35,Y37),(36,Y6),(37,Y36),(38,Y44),(39,Yg),(40,Y10),(41,Y1t),(42,Y1u),(43,Y11),(44,Y12),(45,Yi),(46,Yj),(47,Y10),(48,Y13),(49,Y13),(50,Yj),(51,Yi),(52,Yi),(53,Yi),(54,Yj),(55,Yj),(56,Y11),(57,Y12),(58,Y2),(59,Y0),(60,Y1),(61,Y3),(62,Y4),(63,Y0),(64,Y1),(65,Y2),(66,Y3),(67,Y4),(68,Y0),(69,Y1),(70,Y0),(71,Y1),(72,Y0),(73,Y1),(74,Y0),(75,Y1)],76,(.tup [(i6 112),Z0]),[],[8,9,10,11,12,13,14,15,16,17,18,19,20,21,22,23,24,25,26,27,28,29,30,31,32,33,34,35,36,37,38,39,40,41,42,43,44,45,46,47,48,49,50,51,52,53,54,55,56,57,58,59,60,61,62,63,64,65,66,67,68,69,70,71,72,73,74,75],[],6087⟩]
theorem dA11_0_ok:List.all WW (bI T YJ 8 1000 1000 107)=true:=by kernel_rfl
noncomputable def YI:Nat→Option FC:=ovl T 8 107 VX (WW) YJ
set_option maxRecDepth 100000 in
theorem abm (w0:World):dJ Tryz.prog T w0 8 YI:=bT (abn w0) (aK hT (abn w0) (aie w0 8) dA11_0_ok) (aie w0 8)
end Go.Proofs.YthckjidmpbiccaaGreatDoor
namespace Go.Proofs.YthckjidmpbiccaaGreatDoor
open Go Go.Sim
noncomputable def WV:List Fact:=[⟨[Z1c,(.agg [.aj,Ze,Z20,Z27,.aj,.aj,.aj,.aj,.aj,Z0,bt])],[(8,bk 6 [(sn 12 2 30),(sn 13 3 20),(sc 14 1 0 30 30),(sn 15 3 2),(.map ⟨16⟩),(.map ⟨17⟩)]),(9,Yd),(10,bk 12 [z17,.aj,z11,Z58,z11,Z3o,z1,Z3v,z1,Z3c,z1,Z3w]),(11,bk 18 [Z0,z13,.aj,Z0,z9,Z38,Z0,z9,Z1i,Z1,z13,.aj,Z1,z10,Z10,Z1,z10,Z12]),(12,bk 60 [z23,.aj,z18,Zv,z5,Zs,z5,Zw,z5,Zt,z5,Zx,z5,Z1d,z14,Z32,z14,Z49,z0,(sn 35 2 1),z0,(sn 36 2 1),z0,(sn 37 2 1),z0,(sn 38 2 1),z0,Z4y,z0,Zq,z3,(sn 41 2 2),z3,(sn 42 2 2),z3,(sn 43 2 2),z3,Z4a,z3,Z4b,z3,Z3y,z19,Z3z,z19,Z1s,z2,Z1t,z2,Z1p,z2,Z1j,z2,Z1u,z2,Z2l,z2,Z4r,z20,Z4s]),(15,bk 6 [Z0,Z0,.aj,Z1,Z0,.aj]),(16,.map 3 []),(18,Y0),(19,Y1),(20,Y2),(21,Y3),(22,Y4),(23,Y0),(24,Y1),(25,Y0),(26,Y1),(35,Y5),(36,bk 2 [z11,Z3e]),(37,bk 2 [z11,Z3g]),(38,Y41),(39,bk 2 [z1,Z2a]),(40,Y22),(41,Y8),(42,Y4z),(43,Y50),(44,Y6),(45,Y45),(46,Y38),(56,Y0),(57,Y1),(58,Y2),(59,Y3),(60,Y4),(61,Y0),(62,Y1),(63,Y0),(64,Y1)],65,(.tup []),[8,15,16],[9,10,11,12,18,19,20,21,22,23,24,25,26,35,36,37,38,39,40,41,42,43,44,45,46,56,57,58,59,60,61,62,63,64],[(8,bk 6 [(sn 12 2 30),(sn 13 3 20),(sc 14 1 0 30 30),(sn 2537 3 14),(.map ⟨16⟩),(.map ⟨17⟩)]),(16,.map 3 [(Zj,Z2),(Zl,Z5),(Zy,Z3),(Zh,Z4),(Zi,Z9),(Zp,Zd),(Zz,Zf),(Zo,Zj),(Z1b,Zl),(Z31,Zy),(Z1r,Zh),(Z3k,Zi)]),(2537,bk 42 [Z0,Z0,.aj,Z1,Z0,.aj,Z2,Z0,.aj,Z2,Z1,.aj,Z2,Z2,.aj,Z2,Z5,.aj,Z2,Z3,.aj,Z2,Z4,.aj,Z5,Z0,.aj,Z5,Z1,.aj,Z5,Z2,.aj,Z5,Z5,.aj,Z5,Z3,.aj,Z5,Z4,.aj])],2598⟩]
theorem dA12_0_ok:List.all WV (bI T YI 8 1000 1000 111)=true:=by kernel_rfl
noncomputable def YH:Nat→Option FC:=ovl T 8 111 VW (WV) YI
set_option maxRecDepth 100000 in
theorem abl (w0:World):dJ Tryz.prog T w0 8 YH:=bT (abm w0) (aK hT (abm w0) (aic w0 8) dA12_0_ok) (aic w0 8)
end Go.Proofs.YthckjidmpbiccaaGreatDoor
