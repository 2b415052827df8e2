/- Sim: facts of function 100 (gameplayer/compile.Gates). Printed by a program (SimF3.lean). -/
import Derived.Test.YtdbkblcekmogkaaGreatDoorSimDA10One
set_option linter.unusedVariables false
set_option linter.unusedSimpArgs false
set_option linter.all false
namespace Go.Proofs.YtdbkblcekmogkaaGreatDoor
open Go Go.Sim
noncomputable def VA:List Fact:=[⟨[Z8h,Z7d,bt],[(5,Y40),(6,bk 60 [Z0,(sn 37 1 1),.aj,Z1,.aj,.aj,Z2,Z62,.aj,Z2,(sn 39 1 2),.aj,Z5,Z63,.aj,Z3,Z64,.aj,Z4,Z65,.aj,Z9,Z66,.aj,Zc,.aj,.aj,Zf,.aj,.aj,Z3p,Z67,Z68,Z34,Z69,.aj,Z1w,Z6a,.aj,Z21,Z6b,.aj,Z22,Z6c,.aj,Z23,Z6d,.aj,Z1v,Z6e,.aj,Z24,Z6f,.aj,Z2p,Z6g,.aj,Z2p,(sn 54 1 1),.aj]),(7,Yd),(8,Y41),(9,Y5),(10,Y31),(11,bk 2 [z11,Z1y]),(12,Y32),(13,Y42),(14,Ya),(15,Yb),(16,Y5),(17,Y33),(18,Y43),(19,Y1f),(20,Y15),(21,Y16),(22,Y8),(23,Y34),(24,Y1s),(25,Y6),(26,Y35),(27,Y53),(28,Yh),(29,Yl),(30,Y8),(31,Y36),(32,Y38),(33,Y6),(34,Y37),(35,Y44),(36,Yg),(37,Y10),(38,Y1q),(39,Y1r),(40,Y11),(41,Y12),(42,Yi),(43,Yj),(44,Y10),(45,Y13),(46,Y13),(47,Yj),(48,Yi),(49,Yi),(50,Yi),(51,Yj),(52,Yj),(53,Y11),(54,Y12),(55,Y2),(56,Y0),(57,Y1),(58,Y3),(59,Y4),(60,Y0),(61,Y1),(62,Y2),(63,Y3),(64,Y4),(65,Y0),(66,Y1),(67,Y0),(68,Y1),(69,Y0),(70,Y1),(71,Y0),(72,Y1)],73,(.tup [(i6 112),Z0]),[],[5,6,7,8,9,10,11,12,13,14,15,16,17,18,19,20,21,22,23,24,25,26,27,28,29,30,31,32,33,34,35,36,37,38,39,40,41,42,43,44,45,46,47,48,49,50,51,52,53,54,55,56,57,58,59,60,61,62,63,64,65,66,67,68,69,70,71,72],[],6084⟩]
theorem dA11_0_ok:List.all VA (bI T Xc 5 1000 1000 100)=true:=by kernel_rfl
noncomputable def Xb:Nat→Option FC:=ovl T 5 100 UR (VA) Xc
set_option maxRecDepth 100000 in
theorem aap (w0:World):dD Tryz.prog T w0 5 Xb:=bM (aaq w0) (aJ hT (aaq w0) (agG w0 5) dA11_0_ok) (agG w0 5)
end Go.Proofs.YtdbkblcekmogkaaGreatDoor
namespace Go.Proofs.YtdbkblcekmogkaaGreatDoor
open Go Go.Sim
noncomputable def Vz:List Fact:=[⟨[Z1a,(.agg [.aj,Ze,Z1z,Z28,.aj,.aj,.aj,.aj,.aj,Z0,bt])],[(5,bk 6 [(sn 9 2 30),(sn 10 3 20),(sc 11 1 0 30 30),(sn 12 3 2),(.map ⟨13⟩),(.map ⟨14⟩)]),(6,Yd),(7,bk 12 [z17,.aj,z11,Z5c,z11,Z3e,z1,Z3x,z1,Z3a,z1,Z3y]),(8,bk 18 [Z0,z12,.aj,Z0,z9,Z36,Z0,z9,Z1f,Z1,z12,.aj,Z1,z10,Z13,Z1,z10,Z15]),(9,bk 60 [z23,.aj,z18,Zy,z5,Zr,z5,Zt,z5,Zs,z5,Zu,z5,Z1b,z15,Z31,z15,Z3f,z0,Z4y,z0,Z7f,z0,(sn 34 2 1),z0,(sn 35 2 1),z0,Z4z,z0,Zp,z3,(sn 38 2 2),z3,(sn 39 2 2),z3,(sn 40 2 2),z3,Z4b,z3,Z4c,z3,Z41,z19,Z42,z19,Z1r,z2,Z1s,z2,Z1p,z2,Z1j,z2,Z1t,z2,Z2o,z2,Z4s,z20,Z4t]),(12,bk 6 [Z0,Z0,.aj,Z1,Z0,.aj]),(13,.map 3 []),(15,Y0),(16,Y1),(17,Y2),(18,Y3),(19,Y4),(20,Y0),(21,Y1),(22,Y0),(23,Y1),(32,Y5),(33,bk 2 [z11,Z3g]),(34,bk 2 [z11,Z3j]),(35,Y41),(36,bk 2 [z1,Z2d]),(37,Y1z),(38,Y8),(39,Y54),(40,Y55),(41,Y6),(42,Y45),(43,Y39),(53,Y0),(54,Y1),(55,Y2),(56,Y3),(57,Y4),(58,Y0),(59,Y1),(60,Y0),(61,Y1)],62,(.tup []),[5,12,13],[6,7,8,9,15,16,17,18,19,20,21,22,23,32,33,34,35,36,37,38,39,40,41,42,43,53,54,55,56,57,58,59,60,61],[(5,bk 6 [(sn 9 2 30),(sn 10 3 20),(sc 11 1 0 30 30),(sn 2534 3 14),(.map ⟨13⟩),(.map ⟨14⟩)]),(13,.map 3 [(Zj,Z2),(Zk,Z5),(Zw,Z3),(Zh,Z4),(Zi,Z9),(Zo,Zc),(Zx,Zf),(Zn,Zj),(Z1d,Zk),(Z30,Zw),(Z1o,Zh),(Z3m,Zi)]),(2534,bk 42 [Z0,Z0,.aj,Z1,Z0,.aj,Z2,Z0,.aj,Z2,Z1,.aj,Z2,Z2,.aj,Z2,Z5,.aj,Z2,Z3,.aj,Z2,Z4,.aj,Z5,Z0,.aj,Z5,Z1,.aj,Z5,Z2,.aj,Z5,Z5,.aj,Z5,Z3,.aj,Z5,Z4,.aj])],2595⟩]
theorem dA12_0_ok:List.all Vz (bI T Xb 5 1000 1000 104)=true:=by kernel_rfl
noncomputable def Xa:Nat→Option FC:=ovl T 5 104 UQ (Vz) Xb
set_option maxRecDepth 100000 in
theorem aao (w0:World):dD Tryz.prog T w0 5 Xa:=bM (aap w0) (aJ hT (aap w0) (agF w0 5) dA12_0_ok) (agF w0 5)
end Go.Proofs.YtdbkblcekmogkaaGreatDoor
namespace Go.Proofs.YtdbkblcekmogkaaGreatDoor
open Go Go.Sim
noncomputable def Vy:List Fact:=[⟨[Z1a,(pt 6)],[(5,bk 6 [(sn 7 2 30),(sn 8 3 20),(sc 9 1 0 30 30),(sn 10 3 20),(.map ⟨11⟩),(.map ⟨12⟩)]),(6,bk 11 [.aj,Z1q,(sn 14 2 6),(sn 15 3 6),.aj,.aj,.aj,.aj,.aj,Z0,bt]),(7,bk 60 [z23,.aj,z18,Z3e,z5,Z3x,z5,Z3a,z5,Z3y,z5,Z36,z5,Z1f,z15,Z13,z15,Z15,z0,Zy,z0,Zr,z0,Zt,z0,Zs,z0,Zu,z0,Z1b,z3,Z3q,z3,Z2k,z3,Z3r,z3,Z2v,z3,Z3s,z3,Z2w,z19,Z7e,z19,(sn 37 2 2),z2,(sn 38 2 2),z2,(sn 39 2 2),z2,(sn 40 2 2),z2,Z4b,z2,Z4c,z2,Z41,z20,Z42]),(11,.map 3 [(Zj,Z2),(Zk,Z5),(Zw,Z3),(Zh,Z4),(Zi,Z9),(Zo,Zc),(Zx,Zf),(Zn,Zj),(Z1d,Zk),(Z30,Zw),(Z1o,Zh),(Z3m,Zi),(Z1,Z1),(Zc,Z1),(Zf,Z1),(Z4,Z4),(Z9,Z9),(Z0,Zc),(Z5,Zj),(Z3,Zk),(Z2,Zn),(Z3p,Z30),(Z34,Z2),(Z1w,Z9),(Z21,Z4),(Z22,Z4),(Z23,Z4),(Z1v,Z9),(Z24,Z9),(Z2p,Z1o)]),(13,Yd),(14,bk 12 [z17,.aj,z11,Z43,z11,Z44,z1,Z4u,z1,Z5d,z1,Z4d]),(15,bk 18 [Z0,z12,.aj,Z0,z9,Z45,Z0,z9,Z3t,Z1,z12,.aj,Z1,z10,Z3k,Z1,z10,Z3g]),(17,Y5),(18,bk 2 [z11,Z3j]),(19,Y30),(20,bk 2 [z1,Z2d]),(21,Y1z),(36,Yh),(37,Yl),(38,Y8),(39,Y54),(40,Y55),(41,Y6),(42,Y45),(43,Y39),(44,Yg),(45,Y0),(46,Y1),(47,Y2),(48,Y3),(49,Y4),(50,Y0),(51,Y1),(52,Y0),(53,Y1),(54,Y0),(55,Y1),(56,Y3),(57,Y4),(58,Y0),(59,Y1),(60,Y0),(61,Y1)],62,(.tup []),[6],[5,7,11,13,14,15,17,18,19,20,21,36,37,38,39,40,41,42,43,44,45,46,47,48,49,50,51,52,53,54,55,56,57,58,59,60,61],[(6,bk 11 [.aj,Z1q,(sn 14 2 6),(sn 15 3 6),.aj,(sn 855 1 6),(sn 2770 1 6),(sn 3414 5 2),(sn 3764 5 1),Zc,bt]),(855,Y19),(2770,Y1a),(3414,Y1b),(3764,Y1c)],3780⟩]
theorem dA13_0_ok:List.all Vy (bI T Xa 5 1000 1000 108)=true:=by kernel_rfl
noncomputable def W9:Nat→Option FC:=ovl T 5 108 UM (Vy) Xa
set_option maxRecDepth 100000 in
theorem aan (w0:World):dD Tryz.prog T w0 5 W9:=bM (aao w0) (aJ hT (aao w0) (agD w0 5) dA13_0_ok) (agD w0 5)
end Go.Proofs.YtdbkblcekmogkaaGreatDoor
namespace Go.Proofs.YtdbkblcekmogkaaGreatDoor
open Go Go.Sim
noncomputable def Vx:List Fact:=[⟨[Z8h,Z1z],[(5,Y40),(6,bk 60 [Z0,(sn 37 1 1),.aj,Z1,.aj,.aj,Z2,Z62,.aj,Z2,(sn 39 1 2),.aj,Z5,Z63,.aj,Z3,Z64,.aj,Z4,Z65,.aj,Z9,Z66,.aj,Zc,.aj,.aj,Zf,.aj,.aj,Z3p,Z67,Z68,Z34,Z69,.aj,Z1w,Z6a,.aj,Z21,Z6b,.aj,Z22,Z6c,.aj,Z23,Z6d,.aj,Z1v,Z6e,.aj,Z24,Z6f,.aj,Z2p,Z6g,.aj,Z2p,(sn 54 1 1),.aj]),(7,bk 12 [z17,.aj,z11,Z1x,z11,Z2d,z1,Z1y,z1,Z2e,z1,Z37]),(8,Y21),(9,Y5),(10,Y43),(11,Y46),(12,Y15),(13,Y16),(14,Ya),(15,Yb),(16,Y5),(17,bk 2 [z11,Z2r]),(18,bk 2 [z11,Z2s]),(19,Y1t),(20,Y1d),(21,Y3a),(22,Y8),(23,Y38),(24,Y56),(25,Y6),(26,Y44),(27,bk 4 [z4,.aj,z10,Z3l]),(28,Yh),(29,Yl),(30,Y8),(31,bk 4 [z6,.aj,z9,Z5e]),(32,bk 4 [z6,.aj,z9,Z4v]),(33,Y6),(34,bk 4 [z4,.aj,z10,Z5f]),(35,bk 4 [z4,.aj,z10,Z50]),(36,Yg),(37,Y10),(38,Y1q),(39,Y1r),(40,Y11),(41,Y12),(42,Yi),(43,Yj),(44,Y10),(45,Y13),(46,Y13),(47,Yj),(48,Yi),(49,Yi),(50,Yi),(51,Yj),(52,Yj),(53,Y11),(54,Y12),(57,Y2),(58,Y3),(59,Y4),(60,Y2),(61,Y0),(62,Y1),(63,Y3),(64,Y4),(65,Y0),(66,Y1),(67,Y2),(68,Y3),(69,Y4),(70,Y0),(71,Y1),(72,Y0),(73,Y1),(74,Y0),(75,Y1),(76,Y0),(77,Y1)],78,(sn 3178 1 1),[],[5,6,7,8,9,10,11,12,13,14,15,16,17,18,19,20,21,22,23,24,25,26,27,28,29,30,31,32,33,34,35,36,37,38,39,40,41,42,43,44,45,46,47,48,49,50,51,52,53,54,57,58,59,60,61,62,63,64,65,66,67,68,69,70,71,72,73,74,75,76,77],[(3178,Y9)],3763⟩]
theorem dA14_0_ok:List.all Vx (bI T W9 5 1000 1000 109)=true:=by kernel_rfl
noncomputable def WZ:Nat→Option FC:=ovl T 5 109 UL (Vx) W9
set_option maxRecDepth 100000 in
theorem aam (w0:World):dD Tryz.prog T w0 5 WZ:=bM (aan w0) (aJ hT (aan w0) (agC w0 5) dA14_0_ok) (agC w0 5)
end Go.Proofs.YtdbkblcekmogkaaGreatDoor
namespace Go.Proofs.YtdbkblcekmogkaaGreatDoor
open Go Go.Sim
noncomputable def Vw:List Fact:=[⟨[Z8h,Z7d,bt],[(5,Y40),(6,bk 60 [Z0,(sn 37 1 1),.aj,Z1,.aj,.aj,Z2,Z62,.aj,Z2,(sn 39 1 2),.aj,Z5,Z63,.aj,Z3,Z64,.aj,Z4,Z65,.aj,Z9,Z66,.aj,Zc,.aj,.aj,Zf,.aj,.aj,Z3p,Z67,Z68,Z34,Z69,.aj,Z1w,Z6a,.aj,Z21,Z6b,.aj,Z22,Z6c,.aj,Z23,Z6d,.aj,Z1v,Z6e,.aj,Z24,Z6f,.aj,Z2p,Z6g,.aj,Z2p,(sn 54 1 1),.aj]),(7,Yd),(8,Y41),(9,Y5),(10,Y31),(11,bk 2 [z11,Z1y]),(12,Y32),(13,Y42),(14,Ya),(15,Yb),(16,Y5),(17,Y33),(18,Y43),(19,Y1f),(20,Y15),(21,Y16),(22,Y8),(23,Y34),(24,Y1s),(25,Y6),(26,Y35),(27,Y53),(28,Yh),(29,Yl),(30,Y8),(31,Y36),(32,Y38),(33,Y6),(34,Y37),(35,Y44),(36,Yg),(37,Y10),(38,Y1q),(39,Y1r),(40,Y11),(41,Y12),(42,Yi),(43,Yj),(44,Y10),(45,Y13),(46,Y13),(47,Yj),(48,Yi),(49,Yi),(50,Yi),(51,Yj),(52,Yj),(53,Y11),(54,Y12),(55,Y2),(56,Y0),(57,Y1),(58,Y3),(59,Y4),(60,Y0),(61,Y1),(62,Y2),(63,Y3),(64,Y4),(65,Y0),(66,Y1),(67,Y0),(68,Y1),(69,Y0),(70,Y1),(71,Y0),(72,Y1)],73,(.tup [(.agg [(sn 11359 3 20),(sn 6161 2 2),(sn 6270 2 6),(sn 6548 3 6),(sn 18178 1 1),(sn 12153 1 6),(sn 14068 1 6),(sn 14712 5 2),(sn 15062 5 1),Zc,bt]),Z0]),[],[5,6,7,8,9,10,11,12,13,14,15,16,17,18,19,20,21,22,23,24,25,26,27,28,29,30,31,32,33,34,35,36,37,38,39,40,41,42,43,44,45,46,47,48,49,50,51,52,53,54,55,56,57,58,59,60,61,62,63,64,65,66,67,68,69,70,71,72],[(11359,bk 60 [Z0,Z0,.aj,Z1,Z0,.aj,Z2,Z0,.aj,Z2,Z1,.aj,Z2,Z2,.aj,Z2,Z5,.aj,Z2,Z3,.aj,Z2,Z4,.aj,Z5,Z0,.aj,Z5,Z1,.aj,Z5,Z2,.aj,Z5,Z5,.aj,Z5,Z3,.aj,Z5,Z4,.aj,Z3,Z0,(sn 11237 1 2),Z3,Z0,(sn 11246 1 2),Z4,Z0,(sn 11251 1 2),Z9,Z0,(sc 11261 1 0 1 1),Z3,Z0,(sn 11266 1 2),Z4,Z0,(sn 11357 1 2)]),(6161,Yd),(6270,bk 12 [z17,.aj,z11,(sn 6187 2 1),z11,(sn 6199 2 1),z1,(sn 6211 2 1),z1,(sn 6223 2 1),z1,(sn 6235 2 1)]),(6548,bk 18 [Z0,z12,.aj,Z0,z9,(sn 6326 2 1),Z0,z9,(sn 6350 2 1),Z1,z12,.aj,Z1,z10,(sn 6504 2 1),Z1,z10,(sn 6528 2 1)]),(18178,Y9),(12153,Y19),(14068,Y1a),(14712,Y1b),(15062,Y1c),(11237,Y1g),(11246,Y1h),(11251,Y1i),(11261,Y18),(11266,Y1j),(11357,Y1k),(6187,Y0),(6199,Y1),(6211,Y2),(6223,Y3),(6235,Y4),(6326,Y0),(6350,Y1),(6504,Y0),(6528,Y1)],18763⟩]
theorem dA15_0_ok:List.all Vw (bI T WZ 5 1000 1000 61)=true:=by kernel_rfl
noncomputable def WY:Nat→Option FC:=ovl T 5 61 afa (Vw) WZ
set_option maxRecDepth 100000 in
theorem aal (w0:World):dD Tryz.prog T w0 5 WY:=bM (aam w0) (aJ hT (aam w0) (b61 w0 5) dA15_0_ok) (b61 w0 5)
end Go.Proofs.YtdbkblcekmogkaaGreatDoor
namespace Go.Proofs.YtdbkblcekmogkaaGreatDoor
open Go Go.Sim
noncomputable def Vu:List Fact:=[⟨[Z8l],[(5,Y47),(6,Yd),(7,Y1u),(8,Y1v),(9,Y9),(10,Y19),(11,Y1a),(12,Y1b),(13,Y1c),(14,Y1g),(15,Y1h),(16,Y1i),(17,Y18),(18,Y1j),(19,Y1k),(20,Y0),(21,Y1),(22,Y2),(23,Y3),(24,Y4),(25,Y0),(26,Y1),(27,Y0),(28,Y1)],29,Z0,[],[5,6,7,8,9,10,11,12,13,14,15,16,17,18,19,20,21,22,23,24,25,26,27,28],[],417⟩,⟨[Z8l],[(5,Y57),(6,Yd),(7,Y1u),(8,Y1v),(9,Y9),(10,Y19),(11,Y1a),(12,Y1b),(13,Y1c),(14,Y1g),(15,Y1h),(16,Y1i),(17,Y18),(18,Y1j),(19,Y1k),(20,Y0),(21,Y1),(22,Y2),(23,Y3),(24,Y4),(25,Y0),(26,Y1),(27,Y0),(28,Y1)],29,Z0,[],[5,6,7,8,9,10,11,12,13,14,15,16,17,18,19,20,21,22,23,24,25,26,27,28],[],417⟩,⟨[Z87],[(5,Y58),(6,Yd),(7,Y1u),(8,Y1v),(9,Y9),(10,Yo),(11,Yp),(12,Yq),(13,Yr),(14,Ys),(15,Yt),(16,Yu),(17,Ym),(18,Yv),(19,Yw),(20,Y0),(21,Y1),(22,Y2),(23,Y3),(24,Y4),(25,Y0),(26,Y1),(27,Y0),(28,Y1)],29,Z0,[],[5,6,7,8,9,10,11,12,13,14,15,16,17,18,19,20,21,22,23,24,25,26,27,28],[],411⟩]
theorem dA16_0_ok:List.all Vu (bI T WY 5 1000 1000 64)=true:=by kernel_rfl
noncomputable def WX:Nat→Option FC:=ovl T 5 64 ae9 (Vu) WY
set_option maxRecDepth 100000 in
theorem aak (w0:World):dD Tryz.prog T w0 5 WX:=bM (aal w0) (aJ hT (aal w0) (b64 w0 5) dA16_0_ok) (b64 w0 5)
end Go.Proofs.YtdbkblcekmogkaaGreatDoor
namespace Go.Proofs.YtdbkblcekmogkaaGreatDoor
open Go Go.Sim
noncomputable def Vt:List Fact:=[⟨[Z1e],[(1,.blk true 40 [z15,Z1,bt,bt,z18,Z1,bt,bf,z0,Z1,bf,bt,z3,Z2,bf,bt,z2,Z2,bt,bf,z5,Z1,bt,bf,z23,Z0,bt,bf,z19,Z2,bt,bf,z20,Z2,bt,bf,z27,Z2,bf,bt]),(5,Y2g),(6,Ya),(7,Yb),(8,Y2h),(9,Y3b),(10,Y2i),(11,Y3c),(12,Y2j),(13,Y6),(14,Y22),(15,Y3d),(16,Y2k),(17,Y3e),(18,Y1w),(19,Y8),(20,Y1o),(21,Y3f),(22,Y3g),(23,Y3h),(24,Y2l),(25,Y23),(26,Y1x),(27,Y5),(28,Y2m),(29,Y1e),(30,Yl),(31,Y1l),(32,Yh),(33,Y2n),(34,Yg),(35,Y2o),(36,Y2),(37,Y0),(38,Y21),(39,Y1),(40,Y1p),(41,Y1f),(42,Y0),(43,Y15),(44,Y1),(45,Y16),(46,Y24),(47,Y7),(48,Y1s),(49,Y3),(50,Y1t),(51,Y4),(52,Y1d),(53,Y2p),(54,Y20),(55,Y25),(56,Y5),(57,Y26),(58,Y5),(59,Y3i),(60,Y2),(61,Y2),(62,Y2),(63,Y3),(64,Y3),(65,Y3),(66,Y7),(67,Y2),(68,Y3),(69,Y7),(70,Y7),(71,Y4),(72,Y4),(73,Y7)],74,(.tup [(.agg [(sn 89256 3 20),(sn 84058 2 2),(sn 84167 2 6),(sn 84445 3 6),(sn 96075 1 1),(sn 90050 1 6),(sn 91965 1 6),(sn 92609 5 2),(sn 92959 5 1),Zc,bt]),Z0]),[],[1,5,6,7,8,9,10,11,12,13,14,15,16,17,18,19,20,21,22,23,24,25,26,27,28,29,30,31,32,33,34,35,36,37,38,39,40,41,42,43,44,45,46,47,48,49,50,51,52,53,54,55,56,57,58,59,60,61,62,63,64,65,66,67,68,69,70,71,72,73],[(89256,bk 60 [Z0,Z0,.aj,Z1,Z0,.aj,Z2,Z0,.aj,Z2,Z1,.aj,Z2,Z2,.aj,Z2,Z5,.aj,Z2,Z3,.aj,Z2,Z4,.aj,Z5,Z0,.aj,Z5,Z1,.aj,Z5,Z2,.aj,Z5,Z5,.aj,Z5,Z3,.aj,Z5,Z4,.aj,Z3,Z0,(sn 89134 1 2),Z3,Z0,(sn 89143 1 2),Z4,Z0,(sn 89148 1 2),Z9,Z0,(sc 89158 1 0 1 1),Z3,Z0,(sn 89163 1 2),Z4,Z0,(sn 89254 1 2)]),(84058,Yd),(84167,bk 12 [z17,.aj,z11,(sn 84084 2 1),z11,(sn 84096 2 1),z1,(sn 84108 2 1),z1,(sn 84120 2 1),z1,(sn 84132 2 1)]),(84445,bk 18 [Z0,z12,.aj,Z0,z9,(sn 84223 2 1),Z0,z9,(sn 84247 2 1),Z1,z12,.aj,Z1,z10,(sn 84401 2 1),Z1,z10,(sn 84425 2 1)]),(96075,Y9),(90050,Y19),(91965,Y1a),(92609,Y1b),(92959,Y1c),(89134,Y1g),(89143,Y1h),(89148,Y1i),(89158,Y18),(89163,Y1j),(89254,Y1k),(84084,Y0),(84096,Y1),(84108,Y2),(84120,Y3),(84132,Y4),(84223,Y0),(84247,Y1),(84401,Y0),(84425,Y1)],96660⟩]
theorem dA17_0_ok:List.all Vt (bI T WX 5 1000 1000 28)=true:=by kernel_rfl
noncomputable def WW:Nat→Option FC:=ovl T 5 28 afe (Vt) WX
set_option maxRecDepth 100000 in
theorem aaj (w0:World):dD Tryz.prog T w0 5 WW:=bM (aak w0) (aJ hT (aak w0) (b28 w0 5) dA17_0_ok) (b28 w0 5)
end Go.Proofs.YtdbkblcekmogkaaGreatDoor
namespace Go.Proofs.YtdbkblcekmogkaaGreatDoor
open Go Go.Sim
noncomputable def Vs:List Fact:=[⟨[Z8l],[(5,Y47),(6,Yd),(7,Y1u),(8,Y1v),(9,Y9),(10,Y19),(11,Y1a),(12,Y1b),(13,Y1c),(14,Y1g),(15,Y1h),(16,Y1i),(17,Y18),(18,Y1j),(19,Y1k),(20,Y0),(21,Y1),(22,Y2),(23,Y3),(24,Y4),(25,Y0),(26,Y1),(27,Y0),(28,Y1)],29,(.agg [(sn 580 3 20),(sn 597 2 2),(sn 663 2 6),(sn 725 3 6),(sn 664 1 1),(sn 737 1 6),(sn 749 1 6),(sn 761 5 2),(sn 767 5 1),Zc,bt]),[],[5,6,7,8,9,10,11,12,13,14,15,16,17,18,19,20,21,22,23,24,25,26,27,28],[(580,bk 60 [Z0,Z0,.aj,Z1,Z0,.aj,Z2,Z0,.aj,Z2,Z1,.aj,Z2,Z2,.aj,Z2,Z5,.aj,Z2,Z3,.aj,Z2,Z4,.aj,Z5,Z0,.aj,Z5,Z1,.aj,Z5,Z2,.aj,Z5,Z5,.aj,Z5,Z3,.aj,Z5,Z4,.aj,Z3,Z0,(sn 523 1 2),Z3,Z0,(sn 534 1 2),Z4,Z0,(sn 545 1 2),Z9,Z0,(sn 554 1 1),Z3,Z0,(sn 565 1 2),Z4,Z0,(sn 576 1 2)]),(597,Yd),(663,bk 12 [z17,.aj,z11,(sn 613 2 1),z11,(sn 625 2 1),z1,(sn 637 2 1),z1,(sn 649 2 1),z1,(sn 661 2 1)]),(725,bk 18 [Z0,z12,.aj,Z0,z9,(sn 681 2 1),Z0,z9,(sn 693 2 1),Z1,z12,.aj,Z1,z10,(sn 711 2 1),Z1,z10,(sn 723 2 1)]),(664,Y9),(737,Y19),(749,Y1a),(761,Y1b),(767,Y1c),(523,Y1g),(534,Y1h),(545,Y1i),(554,Y18),(565,Y1j),(576,Y1k),(613,Y0),(625,Y1),(637,Y2),(649,Y3),(661,Y4),(681,Y0),(693,Y1),(711,Y0),(723,Y1)],768⟩]
theorem dA18_0_ok:List.all Vs (bI T WW 5 1000 1000 66)=true:=by kernel_rfl
noncomputable def WV:Nat→Option FC:=ovl T 5 66 ae7 (Vs) WW
set_option maxRecDepth 100000 in
theorem aai (w0:World):dD Tryz.prog T w0 5 WV:=bM (aaj w0) (aJ hT (aaj w0) (b66 w0 5) dA18_0_ok) (b66 w0 5)
end Go.Proofs.YtdbkblcekmogkaaGreatDoor
namespace Go.Proofs.YtdbkblcekmogkaaGreatDoor
open Go Go.Sim
noncomputable def Vr:List Fact:=[⟨[Z8l],[(5,Y47),(6,Yd),(7,Y1u),(8,Y1v),(9,Y9),(10,Y19),(11,Y1a),(12,Y1b),(13,Y1c),(14,Y1g),(15,Y1h),(16,Y1i),(17,Y18),(18,Y1j),(19,Y1k),(20,Y0),(21,Y1),(22,Y2),(23,Y3),(24,Y4),(25,Y0),(26,Y1),(27,Y0),(28,Y1)],29,(.agg [(sn 583 3 20),(sn 600 2 2),(sn 666 2 6),(sn 728 3 6),(sn 667 1 1),(sn 740 1 6),(sn 752 1 6),(sn 764 5 2),(sn 770 5 1),Zc,bt]),[],[5,6,7,8,9,10,11,12,13,14,15,16,17,18,19,20,21,22,23,24,25,26,27,28],[(583,bk 60 [Z0,Z0,.aj,Z1,Z0,.aj,Z2,Z0,.aj,Z2,Z1,.aj,Z2,Z2,.aj,Z2,Z5,.aj,Z2,Z3,.aj,Z2,Z4,.aj,Z5,Z0,.aj,Z5,Z1,.aj,Z5,Z2,.aj,Z5,Z5,.aj,Z5,Z3,.aj,Z5,Z4,.aj,Z3,Z0,(sn 513 1 2),Z3,Z0,(sn 528 1 2),Z4,Z0,(sn 543 1 2),Z9,Z0,(sc 550 1 0 1 1),Z3,Z0,(sn 565 1 2),Z4,Z0,(sn 580 1 2)]),(600,Yd),(666,bk 12 [z17,.aj,z11,(sn 616 2 1),z11,(sn 628 2 1),z1,(sn 640 2 1),z1,(sn 652 2 1),z1,(sn 664 2 1)]),(728,bk 18 [Z0,z12,.aj,Z0,z9,(sn 684 2 1),Z0,z9,(sn 696 2 1),Z1,z12,.aj,Z1,z10,(sn 714 2 1),Z1,z10,(sn 726 2 1)]),(667,Y9),(740,Y19),(752,Y1a),(764,Y1b),(770,Y1c),(513,Y1g),(528,Y1h),(543,Y1i),(550,Y18),(565,Y1j),(580,Y1k),(616,Y0),(628,Y1),(640,Y2),(652,Y3),(664,Y4),(684,Y0),(696,Y1),(714,Y0),(726,Y1)],771⟩]
theorem dA19_0_ok:List.all Vr (bI T WV 5 1000 1000 67)=true:=by kernel_rfl
noncomputable def WU:Nat→Option FC:=ovl T 5 67 ae6 (Vr) WV
set_option maxRecDepth 100000 in
theorem aah (w0:World):dD Tryz.prog T w0 5 WU:=bM (aai w0) (aJ hT (aai w0) (b67 w0 5) dA19_0_ok) (b67 w0 5)
end Go.Proofs.YtdbkblcekmogkaaGreatDoor
namespace Go.Proofs.YtdbkblcekmogkaaGreatDoor
open Go Go.Sim
noncomputable def Vo:List Fact:=[⟨[Z8l],[(5,Y57),(6,Yd),(7,Y1u),(8,Y1v),(9,Y9),(10,Y19),(11,Y1a),(12,Y1b),(13,Y1c),(14,Y1g),(15,Y1h),(16,Y1i),(17,Y18),(18,Y1j),(19,Y1k),(20,Y0),(21,Y1),(22,Y2),(23,Y3),(24,Y4),(25,Y0),(26,Y1),(27,Y0),(28,Y1)],29,(.agg [(sn 957 3 17),(sn 974 2 2),(sn 1040 2 6),(sn 1102 3 6),(sn 1041 1 1),(sn 1114 1 6),(sn 1126 1 6),(sn 1138 5 2),(sn 1144 5 1),Z9,bt]),[],[5,6,7,8,9,10,11,12,13,14,15,16,17,18,19,20,21,22,23,24,25,26,27,28],[(957,bk 51 [Z0,Z0,.aj,Z2,Z0,.aj,Z2,Z1,.aj,Z2,Z2,.aj,Z2,Z5,.aj,Z2,Z3,.aj,Z2,Z4,.aj,Z5,Z1,.aj,Z5,Z2,.aj,Z5,Z3,.aj,Z5,Z4,.aj,Z3,Z0,(sn 906 1 2),Z3,Z0,(sn 916 1 2),Z4,Z0,(sn 926 1 2),Z9,Z0,(sn 934 1 1),Z3,Z0,(sn 944 1 2),Z4,Z0,(sn 954 1 2)]),(974,Yd),(1040,bk 12 [z17,.aj,z11,(sn 990 2 1),z11,(sn 1002 2 1),z1,(sn 1014 2 1),z1,(sn 1026 2 1),z1,(sn 1038 2 1)]),(1102,bk 18 [Z0,z12,.aj,Z0,z9,(sn 1058 2 1),Z0,z9,(sn 1070 2 1),Z1,z12,.aj,Z1,z10,(sn 1088 2 1),Z1,z10,(sn 1100 2 1)]),(1041,Y9),(1114,Yo),(1126,Yp),(1138,Yq),(1144,Yr),(906,Ys),(916,Yt),(926,Yu),(934,Ym),(944,Yv),(954,Yw),(990,Y0),(1002,Y1),(1014,Y2),(1026,Y3),(1038,Y4),(1058,Y0),(1070,Y1),(1088,Y0),(1100,Y1)],1145⟩]
theorem dA20_0_ok:List.all Vo (bI T WU 5 1000 1000 65)=true:=by kernel_rfl
noncomputable def WT:Nat→Option FC:=ovl T 5 65 ae8 (Vo) WU
set_option maxRecDepth 100000 in
theorem aag (w0:World):dD Tryz.prog T w0 5 WT:=bM (aah w0) (aJ hT (aah w0) (b65 w0 5) dA20_0_ok) (b65 w0 5)
end Go.Proofs.YtdbkblcekmogkaaGreatDoor
namespace Go.Proofs.YtdbkblcekmogkaaGreatDoor
open Go Go.Sim
noncomputable def Vm:List Fact:=[⟨[Z87],[(5,Y58),(6,Yd),(7,Y1u),(8,Y1v),(9,Y9),(10,Yo),(11,Yp),(12,Yq),(13,Yr),(14,Ys),(15,Yt),(16,Yu),(17,Ym),(18,Yv),(19,Yw),(20,Y0),(21,Y1),(22,Y2),(23,Y3),(24,Y4),(25,Y0),(26,Y1),(27,Y0),(28,Y1)],29,bt,[],[5,6,7,8,9,10,11,12,13,14,15,16,17,18,19,20,21,22,23,24,25,26,27,28],[],831⟩]
theorem dA21_0_ok:List.all Vm (bI T WT 5 1000 1000 68)=true:=by kernel_rfl
noncomputable def WS:Nat→Option FC:=ovl T 5 68 ae5 (Vm) WT
set_option maxRecDepth 100000 in
theorem aaf (w0:World):dD Tryz.prog T w0 5 WS:=bM (aag w0) (aJ hT (aag w0) (b68 w0 5) dA21_0_ok) (b68 w0 5)
end Go.Proofs.YtdbkblcekmogkaaGreatDoor
