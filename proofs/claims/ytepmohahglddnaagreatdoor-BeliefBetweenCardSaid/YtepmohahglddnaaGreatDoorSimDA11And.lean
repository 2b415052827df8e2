/- Sim: facts of function 84 (gameplayer/compile.Gates). Printed by a program (SimF3.lean). -/
import Derived.Test.YtepmohahglddnaaGreatDoorSimDA10One
set_option linter.unusedVariables false
set_option linter.unusedSimpArgs false
set_option linter.all false
namespace Go.Proofs.YtepmohahglddnaaGreatDoor
open Go Go.Sim
noncomputable def VY:List Fact:=[⟨[Z7y,(sn 9 2 2),bt],[(7,Y3q),(8,bk 60 [Z0,(sn 39 1 1),.aj,Z1,.aj,.aj,Z2,Z5s,.aj,Z2,(sn 41 1 2),.aj,Z3,Z5t,.aj,Z7,Z5u,.aj,Z6,Z5v,.aj,Zb,Z5w,.aj,Zf,.aj,.aj,Zm,.aj,.aj,Z39,Z5x,Z5y,Z2p,Z5z,.aj,Z1p,Z60,.aj,Z1t,Z61,.aj,Z1u,Z62,.aj,Z1v,Z63,.aj,Z1o,Z64,.aj,Z1w,Z65,.aj,Z2b,Z66,.aj,Z2b,(sn 56 1 1),.aj]),(9,Ym),(10,Y3r),(11,Y5),(12,Y2r),(13,bk 2 [z12,Z1r]),(14,Y2s),(15,Y3s),(16,Y9),(17,Ya),(18,Y5),(19,Y2t),(20,Y3t),(21,Y15),(22,Yv),(23,Yw),(24,Y8),(25,Y2u),(26,Y1q),(27,Y6),(28,Y2v),(29,Y4o),(30,Yf),(31,Yj),(32,Y8),(33,Y2w),(34,Y2y),(35,Y6),(36,Y2x),(37,Y3u),(38,Ye),(39,Yq),(40,Y1o),(41,Y1p),(42,Yr),(43,Ys),(44,Yg),(45,Yh),(46,Yq),(47,Yt),(48,Yt),(49,Yh),(50,Yg),(51,Yg),(52,Yg),(53,Yh),(54,Yh),(55,Yr),(56,Ys),(57,Y2),(58,Y0),(59,Y1),(60,Y3),(61,Y4),(62,Y0),(63,Y1),(64,Y2),(65,Y3),(66,Y4),(67,Y0),(68,Y1),(69,Y0),(70,Y1),(71,Y0),(72,Y1),(73,Y0),(74,Y1)],75,(.tup [(i6 112),Z0]),[],[7,8,9,10,11,12,13,14,15,16,17,18,19,20,21,22,23,24,25,26,27,28,29,30,31,32,33,34,35,36,37,38,39,40,41,42,43,44,45,46,47,48,49,50,51,52,53,54,55,56,57,58,59,60,61,62,63,64,65,66,67,68,69,70,71,72,73,74],[],6086⟩]
theorem dA11_0_ok:List.all VY (bM T Xy 7 1000 1000 84)=true:=by kernel_rfl
noncomputable def Xx:Nat→Option FC:=ovl T 7 84 afr (VY) Xy
set_option maxRecDepth 100000 in
theorem aaI (w0:World):dN Tryz.prog T w0 7 Xx:=bZ (aaJ w0) (aN hT (aaJ w0) (b84 w0 7) dA11_0_ok) (b84 w0 7)
end Go.Proofs.YtepmohahglddnaaGreatDoor
namespace Go.Proofs.YtepmohahglddnaaGreatDoor
open Go Go.Sim
noncomputable def VX:List Fact:=[⟨[Z1k,(.agg [.aj,Zd,Z33,Z3e,.aj,.aj,.aj,.aj,.aj,Z0,bt])],[(7,bk 6 [(sn 11 2 30),(sn 12 3 20),(sc 13 1 0 30 30),(sn 14 3 2),(.map ⟨15⟩),(.map ⟨16⟩)]),(8,Ym),(9,bk 12 [z19,.aj,z12,Z51,z12,Z3a,z2,Z3i,z2,Z2t,z2,Z3j]),(10,bk 18 [Z0,z13,.aj,Z0,z9,Z2q,Z0,z9,Z1h,Z1,z13,.aj,Z1,z11,Z1e,Z1,z11,Z1s]),(11,bk 60 [z21,.aj,z17,Z19,z5,Z14,z5,Z1a,z5,Z15,z5,Z1b,z5,Z2z,z14,Z67,z14,Z4q,z0,(sn 34 2 1),z0,(sn 35 2 1),z0,(sn 36 2 1),z0,(sn 37 2 1),z0,Z4r,z0,Zn,z3,(sn 40 2 2),z3,(sn 41 2 2),z3,(sn 42 2 2),z3,Z43,z3,Z44,z3,Z3l,z18,Z3m,z18,Z1l,z1,Z1m,z1,Z1f,z1,Z16,z1,Z1n,z1,Z2a,z1,Z4j,z20,Z4k]),(14,bk 6 [Z0,Z0,.aj,Z1,Z0,.aj]),(15,.map 3 []),(17,Y0),(18,Y1),(19,Y2),(20,Y3),(21,Y4),(22,Y0),(23,Y1),(24,Y0),(25,Y1),(34,Y5),(35,bk 2 [z12,Z30]),(36,bk 2 [z12,Z32]),(37,Y3r),(38,bk 2 [z2,Z24]),(39,Y1x),(40,Y8),(41,Y4p),(42,Y4q),(43,Y6),(44,Y3v),(45,Y2z),(55,Y0),(56,Y1),(57,Y2),(58,Y3),(59,Y4),(60,Y0),(61,Y1),(62,Y0),(63,Y1)],64,(.tup []),[7,14,15],[8,9,10,11,17,18,19,20,21,22,23,24,25,34,35,36,37,38,39,40,41,42,43,44,45,55,56,57,58,59,60,61,62,63],[(7,bk 6 [(sn 11 2 30),(sn 12 3 20),(sc 13 1 0 30 30),(sn 2536 3 14),(.map ⟨15⟩),(.map ⟨16⟩)]),(15,.map 3 [(Zk,Z2),(Zl,Z3),(Z1d,Z7),(Zi,Z6),(Zj,Zb),(Zr,Zf),(Z1j,Zm),(Zp,Zk),(Z11,Zl),(Z2m,Z1d),(Z1i,Zi),(Z36,Zj)]),(2536,bk 42 [Z0,Z0,.aj,Z1,Z0,.aj,Z2,Z0,.aj,Z2,Z1,.aj,Z2,Z2,.aj,Z2,Z3,.aj,Z2,Z7,.aj,Z2,Z6,.aj,Z3,Z0,.aj,Z3,Z1,.aj,Z3,Z2,.aj,Z3,Z3,.aj,Z3,Z7,.aj,Z3,Z6,.aj])],2597⟩]
theorem dA12_0_ok:List.all VX (bM T Xx 7 1000 1000 88)=true:=by kernel_rfl
noncomputable def Xw:Nat→Option FC:=ovl T 7 88 afq (VX) Xx
set_option maxRecDepth 100000 in
theorem aaH (w0:World):dN Tryz.prog T w0 7 Xw:=bZ (aaI w0) (aN hT (aaI w0) (b88 w0 7) dA12_0_ok) (b88 w0 7)
end Go.Proofs.YtepmohahglddnaaGreatDoor
namespace Go.Proofs.YtepmohahglddnaaGreatDoor
open Go Go.Sim
noncomputable def VW:List Fact:=[⟨[Z1k,(pt 8)],[(7,bk 6 [(sn 9 2 30),(sn 10 3 20),(sc 11 1 0 30 30),(sn 12 3 20),(.map ⟨13⟩),(.map ⟨14⟩)]),(8,bk 11 [.aj,Z1g,(sn 16 2 6),(sn 17 3 6),.aj,.aj,.aj,.aj,.aj,Z0,bt]),(9,bk 60 [z21,.aj,z17,Z3a,z5,Z3i,z5,Z2t,z5,Z3j,z5,Z2q,z5,Z1h,z14,Z1e,z14,Z1s,z0,Z19,z0,Z14,z0,Z1a,z0,Z15,z0,Z1b,z0,Z2z,z3,Z3b,z3,Z26,z3,Z3c,z3,Z2h,z3,Z3d,z3,Z2i,z18,Z6y,z18,(sn 39 2 2),z1,(sn 40 2 2),z1,(sn 41 2 2),z1,(sn 42 2 2),z1,Z43,z1,Z44,z1,Z3l,z20,Z3m]),(13,.map 3 [(Zk,Z2),(Zl,Z3),(Z1d,Z7),(Zi,Z6),(Zj,Zb),(Zr,Zf),(Z1j,Zm),(Zp,Zk),(Z11,Zl),(Z2m,Z1d),(Z1i,Zi),(Z36,Zj),(Z1,Z1),(Zf,Z1),(Zm,Z1),(Z6,Z6),(Zb,Zb),(Z0,Zf),(Z3,Zk),(Z7,Zl),(Z2,Zp),(Z39,Z2m),(Z2p,Z2),(Z1p,Zb),(Z1t,Z6),(Z1u,Z6),(Z1v,Z6),(Z1o,Zb),(Z1w,Zb),(Z2b,Z1i)]),(15,Ym),(16,bk 12 [z19,.aj,z12,Z3n,z12,Z3o,z2,Z4l,z2,Z52,z2,Z45]),(17,bk 18 [Z0,z13,.aj,Z0,z9,Z3p,Z0,z9,Z3f,Z1,z13,.aj,Z1,z11,Z34,Z1,z11,Z30]),(19,Y5),(20,bk 2 [z12,Z32]),(21,Y2q),(22,bk 2 [z2,Z24]),(23,Y1x),(38,Yf),(39,Yj),(40,Y8),(41,Y4p),(42,Y4q),(43,Y6),(44,Y3v),(45,Y2z),(46,Ye),(47,Y0),(48,Y1),(49,Y2),(50,Y3),(51,Y4),(52,Y0),(53,Y1),(54,Y0),(55,Y1),(56,Y0),(57,Y1),(58,Y3),(59,Y4),(60,Y0),(61,Y1),(62,Y0),(63,Y1)],64,(.tup []),[8],[7,9,13,15,16,17,19,20,21,22,23,38,39,40,41,42,43,44,45,46,47,48,49,50,51,52,53,54,55,56,57,58,59,60,61,62,63],[(8,bk 11 [.aj,Z1g,(sn 16 2 6),(sn 17 3 6),.aj,(sn 857 1 6),(sn 2772 1 6),(sn 3416 5 2),(sn 3766 5 1),Zf,bt]),(857,Yz),(2772,Y10),(3416,Y11),(3766,Y12)],3782⟩]
theorem dA13_0_ok:List.all VW (bM T Xw 7 1000 1000 92)=true:=by kernel_rfl
noncomputable def Xv:Nat→Option FC:=ovl T 7 92 afo (VW) Xw
set_option maxRecDepth 100000 in
theorem aaG (w0:World):dN Tryz.prog T w0 7 Xv:=bZ (aaH w0) (aN hT (aaH w0) (b92 w0 7) dA13_0_ok) (b92 w0 7)
end Go.Proofs.YtepmohahglddnaaGreatDoor
namespace Go.Proofs.YtepmohahglddnaaGreatDoor
open Go Go.Sim
noncomputable def VU:List Fact:=[⟨[Z7y,Z33],[(7,Y3q),(8,bk 60 [Z0,(sn 39 1 1),.aj,Z1,.aj,.aj,Z2,Z5s,.aj,Z2,(sn 41 1 2),.aj,Z3,Z5t,.aj,Z7,Z5u,.aj,Z6,Z5v,.aj,Zb,Z5w,.aj,Zf,.aj,.aj,Zm,.aj,.aj,Z39,Z5x,Z5y,Z2p,Z5z,.aj,Z1p,Z60,.aj,Z1t,Z61,.aj,Z1u,Z62,.aj,Z1v,Z63,.aj,Z1o,Z64,.aj,Z1w,Z65,.aj,Z2b,Z66,.aj,Z2b,(sn 56 1 1),.aj]),(9,bk 12 [z19,.aj,z12,Z1q,z12,Z24,z2,Z1r,z2,Z25,z2,Z2r]),(10,Y1z),(11,Y5),(12,Y3t),(13,Y3w),(14,Yv),(15,Yw),(16,Y9),(17,Ya),(18,Y5),(19,bk 2 [z12,Z2d]),(20,bk 2 [z12,Z2e]),(21,Y1r),(22,Y13),(23,Y30),(24,Y8),(25,Y2y),(26,Y4r),(27,Y6),(28,Y3u),(29,bk 4 [z4,.aj,z11,Z35]),(30,Yf),(31,Yj),(32,Y8),(33,bk 4 [z6,.aj,z9,Z53]),(34,bk 4 [z6,.aj,z9,Z4m]),(35,Y6),(36,bk 4 [z4,.aj,z11,Z54]),(37,bk 4 [z4,.aj,z11,Z4s]),(38,Ye),(39,Yq),(40,Y1o),(41,Y1p),(42,Yr),(43,Ys),(44,Yg),(45,Yh),(46,Yq),(47,Yt),(48,Yt),(49,Yh),(50,Yg),(51,Yg),(52,Yg),(53,Yh),(54,Yh),(55,Yr),(56,Ys),(59,Y2),(60,Y3),(61,Y4),(62,Y2),(63,Y0),(64,Y1),(65,Y3),(66,Y4),(67,Y0),(68,Y1),(69,Y2),(70,Y3),(71,Y4),(72,Y0),(73,Y1),(74,Y0),(75,Y1),(76,Y0),(77,Y1),(78,Y0),(79,Y1)],80,(sn 3180 1 1),[],[7,8,9,10,11,12,13,14,15,16,17,18,19,20,21,22,23,24,25,26,27,28,29,30,31,32,33,34,35,36,37,38,39,40,41,42,43,44,45,46,47,48,49,50,51,52,53,54,55,56,59,60,61,62,63,64,65,66,67,68,69,70,71,72,73,74,75,76,77,78,79],[(3180,Yk)],3765⟩]
theorem dA14_0_ok:List.all VU (bM T Xv 7 1000 1000 93)=true:=by kernel_rfl
noncomputable def Xu:Nat→Option FC:=ovl T 7 93 afn (VU) Xv
set_option maxRecDepth 100000 in
theorem aaF (w0:World):dN Tryz.prog T w0 7 Xu:=bZ (aaG w0) (aN hT (aaG w0) (b93 w0 7) dA14_0_ok) (b93 w0 7)
end Go.Proofs.YtepmohahglddnaaGreatDoor
namespace Go.Proofs.YtepmohahglddnaaGreatDoor
open Go Go.Sim
noncomputable def VT:List Fact:=[⟨[Z7y,(sn 9 2 2),bt],[(7,Y3q),(8,bk 60 [Z0,(sn 39 1 1),.aj,Z1,.aj,.aj,Z2,Z5s,.aj,Z2,(sn 41 1 2),.aj,Z3,Z5t,.aj,Z7,Z5u,.aj,Z6,Z5v,.aj,Zb,Z5w,.aj,Zf,.aj,.aj,Zm,.aj,.aj,Z39,Z5x,Z5y,Z2p,Z5z,.aj,Z1p,Z60,.aj,Z1t,Z61,.aj,Z1u,Z62,.aj,Z1v,Z63,.aj,Z1o,Z64,.aj,Z1w,Z65,.aj,Z2b,Z66,.aj,Z2b,(sn 56 1 1),.aj]),(9,Ym),(10,Y3r),(11,Y5),(12,Y2r),(13,bk 2 [z12,Z1r]),(14,Y2s),(15,Y3s),(16,Y9),(17,Ya),(18,Y5),(19,Y2t),(20,Y3t),(21,Y15),(22,Yv),(23,Yw),(24,Y8),(25,Y2u),(26,Y1q),(27,Y6),(28,Y2v),(29,Y4o),(30,Yf),(31,Yj),(32,Y8),(33,Y2w),(34,Y2y),(35,Y6),(36,Y2x),(37,Y3u),(38,Ye),(39,Yq),(40,Y1o),(41,Y1p),(42,Yr),(43,Ys),(44,Yg),(45,Yh),(46,Yq),(47,Yt),(48,Yt),(49,Yh),(50,Yg),(51,Yg),(52,Yg),(53,Yh),(54,Yh),(55,Yr),(56,Ys),(57,Y2),(58,Y0),(59,Y1),(60,Y3),(61,Y4),(62,Y0),(63,Y1),(64,Y2),(65,Y3),(66,Y4),(67,Y0),(68,Y1),(69,Y0),(70,Y1),(71,Y0),(72,Y1),(73,Y0),(74,Y1)],75,(.tup [(.agg [(sn 11361 3 20),(sn 6163 2 2),(sn 6272 2 6),(sn 6550 3 6),(sn 18180 1 1),(sn 12155 1 6),(sn 14070 1 6),(sn 14714 5 2),(sn 15064 5 1),Zf,bt]),Z0]),[],[7,8,9,10,11,12,13,14,15,16,17,18,19,20,21,22,23,24,25,26,27,28,29,30,31,32,33,34,35,36,37,38,39,40,41,42,43,44,45,46,47,48,49,50,51,52,53,54,55,56,57,58,59,60,61,62,63,64,65,66,67,68,69,70,71,72,73,74],[(11361,bk 60 [Z0,Z0,.aj,Z1,Z0,.aj,Z2,Z0,.aj,Z2,Z1,.aj,Z2,Z2,.aj,Z2,Z3,.aj,Z2,Z7,.aj,Z2,Z6,.aj,Z3,Z0,.aj,Z3,Z1,.aj,Z3,Z2,.aj,Z3,Z3,.aj,Z3,Z7,.aj,Z3,Z6,.aj,Z7,Z0,(sn 11239 1 2),Z7,Z0,(sn 11248 1 2),Z6,Z0,(sn 11253 1 2),Zb,Z0,(sc 11263 1 0 1 1),Z7,Z0,(sn 11268 1 2),Z6,Z0,(sn 11359 1 2)]),(6163,Ym),(6272,bk 12 [z19,.aj,z12,(sn 6189 2 1),z12,(sn 6201 2 1),z2,(sn 6213 2 1),z2,(sn 6225 2 1),z2,(sn 6237 2 1)]),(6550,bk 18 [Z0,z13,.aj,Z0,z9,(sn 6328 2 1),Z0,z9,(sn 6352 2 1),Z1,z13,.aj,Z1,z11,(sn 6506 2 1),Z1,z11,(sn 6530 2 1)]),(18180,Yk),(12155,Yz),(14070,Y10),(14714,Y11),(15064,Y12),(11239,Y16),(11248,Y17),(11253,Y18),(11263,Yy),(11268,Y19),(11359,Y1a),(6189,Y0),(6201,Y1),(6213,Y2),(6225,Y3),(6237,Y4),(6328,Y0),(6352,Y1),(6506,Y0),(6530,Y1)],18765⟩]
theorem dA15_0_ok:List.all VT (bM T Xu 7 1000 1000 56)=true:=by kernel_rfl
noncomputable def Xt:Nat→Option FC:=ovl T 7 56 afB (VT) Xu
set_option maxRecDepth 100000 in
theorem aaE (w0:World):dN Tryz.prog T w0 7 Xt:=bZ (aaF w0) (aN hT (aaF w0) (b56 w0 7) dA15_0_ok) (b56 w0 7)
end Go.Proofs.YtepmohahglddnaaGreatDoor
namespace Go.Proofs.YtepmohahglddnaaGreatDoor
open Go Go.Sim
noncomputable def VR:List Fact:=[⟨[Z81],[(7,Y3x),(8,Ym),(9,Y1s),(10,Y1t),(11,Yk),(12,Yz),(13,Y10),(14,Y11),(15,Y12),(16,Y16),(17,Y17),(18,Y18),(19,Yy),(20,Y19),(21,Y1a),(22,Y0),(23,Y1),(24,Y2),(25,Y3),(26,Y4),(27,Y0),(28,Y1),(29,Y0),(30,Y1)],31,Z0,[],[7,8,9,10,11,12,13,14,15,16,17,18,19,20,21,22,23,24,25,26,27,28,29,30],[],419⟩,⟨[Z81],[(7,Y4s),(8,Ym),(9,Y1s),(10,Y1t),(11,Yk),(12,Yz),(13,Y10),(14,Y11),(15,Y12),(16,Y16),(17,Y17),(18,Y18),(19,Yy),(20,Y19),(21,Y1a),(22,Y0),(23,Y1),(24,Y2),(25,Y3),(26,Y4),(27,Y0),(28,Y1),(29,Y0),(30,Y1)],31,Z0,[],[7,8,9,10,11,12,13,14,15,16,17,18,19,20,21,22,23,24,25,26,27,28,29,30],[],419⟩,⟨[Z82],[(7,Y4t),(8,Ym),(9,Y1s),(10,Y1t),(11,Yk),(12,Y1b),(13,Y1c),(14,Y1d),(15,Y1e),(16,Y1f),(17,Y1g),(18,Y1h),(19,Yx),(20,Y1i),(21,Y1j),(22,Y0),(23,Y1),(24,Y2),(25,Y3),(26,Y4),(27,Y0),(28,Y1),(29,Y0),(30,Y1)],31,Z0,[],[7,8,9,10,11,12,13,14,15,16,17,18,19,20,21,22,23,24,25,26,27,28,29,30],[],413⟩]
theorem dA16_0_ok:List.all VR (bM T Xt 7 1000 1000 59)=true:=by kernel_rfl
noncomputable def Xr:Nat→Option FC:=ovl T 7 59 afA (VR) Xt
set_option maxRecDepth 100000 in
theorem aaD (w0:World):dN Tryz.prog T w0 7 Xr:=bZ (aaE w0) (aN hT (aaE w0) (b59 w0 7) dA16_0_ok) (b59 w0 7)
end Go.Proofs.YtepmohahglddnaaGreatDoor
namespace Go.Proofs.YtepmohahglddnaaGreatDoor
open Go Go.Sim
noncomputable def VQ:List Fact:=[⟨[Z20],[(3,.blk true 40 [z14,Z1,bt,bt,z17,Z1,bt,bf,z0,Z1,bf,bt,z3,Z2,bf,bt,z1,Z2,bt,bf,z5,Z1,bt,bf,z21,Z0,bt,bf,z18,Z2,bt,bf,z20,Z2,bt,bf,z27,Z2,bf,bt]),(7,Y28),(8,Y9),(9,Ya),(10,Y29),(11,Y31),(12,Y2a),(13,Y32),(14,Y2b),(15,Y6),(16,Y20),(17,Y33),(18,Y2c),(19,Y34),(20,Y1u),(21,Y8),(22,Y1m),(23,Y35),(24,Y36),(25,Y37),(26,Y2d),(27,Y21),(28,Y1v),(29,Y5),(30,Y2e),(31,Y14),(32,Yj),(33,Y1k),(34,Yf),(35,Y2f),(36,Ye),(37,Y2g),(38,Y2),(39,Y0),(40,Y1z),(41,Y1),(42,Y1n),(43,Y15),(44,Y0),(45,Yv),(46,Y1),(47,Yw),(48,Y22),(49,Y7),(50,Y1q),(51,Y3),(52,Y1r),(53,Y4),(54,Y13),(55,Y2h),(56,Y1y),(57,Y23),(58,Y5),(59,Y24),(60,Y5),(61,Y38),(62,Y2),(63,Y2),(64,Y2),(65,Y3),(66,Y3),(67,Y3),(68,Y7),(69,Y2),(70,Y3),(71,Y7),(72,Y7),(73,Y4),(74,Y4),(75,Y7)],76,(.tup [(.agg [(sn 89258 3 20),(sn 84060 2 2),(sn 84169 2 6),(sn 84447 3 6),(sn 96077 1 1),(sn 90052 1 6),(sn 91967 1 6),(sn 92611 5 2),(sn 92961 5 1),Zf,bt]),Z0]),[],[3,7,8,9,10,11,12,13,14,15,16,17,18,19,20,21,22,23,24,25,26,27,28,29,30,31,32,33,34,35,36,37,38,39,40,41,42,43,44,45,46,47,48,49,50,51,52,53,54,55,56,57,58,59,60,61,62,63,64,65,66,67,68,69,70,71,72,73,74,75],[(89258,bk 60 [Z0,Z0,.aj,Z1,Z0,.aj,Z2,Z0,.aj,Z2,Z1,.aj,Z2,Z2,.aj,Z2,Z3,.aj,Z2,Z7,.aj,Z2,Z6,.aj,Z3,Z0,.aj,Z3,Z1,.aj,Z3,Z2,.aj,Z3,Z3,.aj,Z3,Z7,.aj,Z3,Z6,.aj,Z7,Z0,(sn 89136 1 2),Z7,Z0,(sn 89145 1 2),Z6,Z0,(sn 89150 1 2),Zb,Z0,(sc 89160 1 0 1 1),Z7,Z0,(sn 89165 1 2),Z6,Z0,(sn 89256 1 2)]),(84060,Ym),(84169,bk 12 [z19,.aj,z12,(sn 84086 2 1),z12,(sn 84098 2 1),z2,(sn 84110 2 1),z2,(sn 84122 2 1),z2,(sn 84134 2 1)]),(84447,bk 18 [Z0,z13,.aj,Z0,z9,(sn 84225 2 1),Z0,z9,(sn 84249 2 1),Z1,z13,.aj,Z1,z11,(sn 84403 2 1),Z1,z11,(sn 84427 2 1)]),(96077,Yk),(90052,Yz),(91967,Y10),(92611,Y11),(92961,Y12),(89136,Y16),(89145,Y17),(89150,Y18),(89160,Yy),(89165,Y19),(89256,Y1a),(84086,Y0),(84098,Y1),(84110,Y2),(84122,Y3),(84134,Y4),(84225,Y0),(84249,Y1),(84403,Y0),(84427,Y1)],96662⟩]
theorem dA17_0_ok:List.all VQ (bM T Xr 7 1000 1000 34)=true:=by kernel_rfl
noncomputable def Xq:Nat→Option FC:=ovl T 7 34 afG (VQ) Xr
set_option maxRecDepth 100000 in
theorem aaC (w0:World):dN Tryz.prog T w0 7 Xq:=bZ (aaD w0) (aN hT (aaD w0) (b34 w0 7) dA17_0_ok) (b34 w0 7)
end Go.Proofs.YtepmohahglddnaaGreatDoor
namespace Go.Proofs.YtepmohahglddnaaGreatDoor
open Go Go.Sim
noncomputable def VP:List Fact:=[⟨[Z81],[(7,Y3x),(8,Ym),(9,Y1s),(10,Y1t),(11,Yk),(12,Yz),(13,Y10),(14,Y11),(15,Y12),(16,Y16),(17,Y17),(18,Y18),(19,Yy),(20,Y19),(21,Y1a),(22,Y0),(23,Y1),(24,Y2),(25,Y3),(26,Y4),(27,Y0),(28,Y1),(29,Y0),(30,Y1)],31,(.agg [(sn 582 3 20),(sn 599 2 2),(sn 665 2 6),(sn 727 3 6),(sn 666 1 1),(sn 739 1 6),(sn 751 1 6),(sn 763 5 2),(sn 769 5 1),Zf,bt]),[],[7,8,9,10,11,12,13,14,15,16,17,18,19,20,21,22,23,24,25,26,27,28,29,30],[(582,bk 60 [Z0,Z0,.aj,Z1,Z0,.aj,Z2,Z0,.aj,Z2,Z1,.aj,Z2,Z2,.aj,Z2,Z3,.aj,Z2,Z7,.aj,Z2,Z6,.aj,Z3,Z0,.aj,Z3,Z1,.aj,Z3,Z2,.aj,Z3,Z3,.aj,Z3,Z7,.aj,Z3,Z6,.aj,Z7,Z0,(sn 525 1 2),Z7,Z0,(sn 536 1 2),Z6,Z0,(sn 547 1 2),Zb,Z0,(sn 556 1 1),Z7,Z0,(sn 567 1 2),Z6,Z0,(sn 578 1 2)]),(599,Ym),(665,bk 12 [z19,.aj,z12,(sn 615 2 1),z12,(sn 627 2 1),z2,(sn 639 2 1),z2,(sn 651 2 1),z2,(sn 663 2 1)]),(727,bk 18 [Z0,z13,.aj,Z0,z9,(sn 683 2 1),Z0,z9,(sn 695 2 1),Z1,z13,.aj,Z1,z11,(sn 713 2 1),Z1,z11,(sn 725 2 1)]),(666,Yk),(739,Yz),(751,Y10),(763,Y11),(769,Y12),(525,Y16),(536,Y17),(547,Y18),(556,Yy),(567,Y19),(578,Y1a),(615,Y0),(627,Y1),(639,Y2),(651,Y3),(663,Y4),(683,Y0),(695,Y1),(713,Y0),(725,Y1)],770⟩]
theorem dA18_0_ok:List.all VP (bM T Xq 7 1000 1000 61)=true:=by kernel_rfl
noncomputable def Xp:Nat→Option FC:=ovl T 7 61 afy (VP) Xq
set_option maxRecDepth 100000 in
theorem aaB (w0:World):dN Tryz.prog T w0 7 Xp:=bZ (aaC w0) (aN hT (aaC w0) (b61 w0 7) dA18_0_ok) (b61 w0 7)
end Go.Proofs.YtepmohahglddnaaGreatDoor
namespace Go.Proofs.YtepmohahglddnaaGreatDoor
open Go Go.Sim
noncomputable def VO:List Fact:=[⟨[Z81],[(7,Y3x),(8,Ym),(9,Y1s),(10,Y1t),(11,Yk),(12,Yz),(13,Y10),(14,Y11),(15,Y12),(16,Y16),(17,Y17),(18,Y18),(19,Yy),(20,Y19),(21,Y1a),(22,Y0),(23,Y1),(24,Y2),(25,Y3),(26,Y4),(27,Y0),(28,Y1),(29,Y0),(30,Y1)],31,(.agg [(sn 585 3 20),(sn 602 2 2),(sn 668 2 6),(sn 730 3 6),(sn 669 1 1),(sn 742 1 6),(sn 754 1 6),(sn 766 5 2),(sn 772 5 1),Zf,bt]),[],[7,8,9,10,11,12,13,14,15,16,17,18,19,20,21,22,23,24,25,26,27,28,29,30],[(585,bk 60 [Z0,Z0,.aj,Z1,Z0,.aj,Z2,Z0,.aj,Z2,Z1,.aj,Z2,Z2,.aj,Z2,Z3,.aj,Z2,Z7,.aj,Z2,Z6,.aj,Z3,Z0,.aj,Z3,Z1,.aj,Z3,Z2,.aj,Z3,Z3,.aj,Z3,Z7,.aj,Z3,Z6,.aj,Z7,Z0,(sn 515 1 2),Z7,Z0,(sn 530 1 2),Z6,Z0,(sn 545 1 2),Zb,Z0,(sc 552 1 0 1 1),Z7,Z0,(sn 567 1 2),Z6,Z0,(sn 582 1 2)]),(602,Ym),(668,bk 12 [z19,.aj,z12,(sn 618 2 1),z12,(sn 630 2 1),z2,(sn 642 2 1),z2,(sn 654 2 1),z2,(sn 666 2 1)]),(730,bk 18 [Z0,z13,.aj,Z0,z9,(sn 686 2 1),Z0,z9,(sn 698 2 1),Z1,z13,.aj,Z1,z11,(sn 716 2 1),Z1,z11,(sn 728 2 1)]),(669,Yk),(742,Yz),(754,Y10),(766,Y11),(772,Y12),(515,Y16),(530,Y17),(545,Y18),(552,Yy),(567,Y19),(582,Y1a),(618,Y0),(630,Y1),(642,Y2),(654,Y3),(666,Y4),(686,Y0),(698,Y1),(716,Y0),(728,Y1)],773⟩]
theorem dA19_0_ok:List.all VO (bM T Xp 7 1000 1000 62)=true:=by kernel_rfl
noncomputable def Xo:Nat→Option FC:=ovl T 7 62 afx (VO) Xp
set_option maxRecDepth 100000 in
theorem aaA (w0:World):dN Tryz.prog T w0 7 Xo:=bZ (aaB w0) (aN hT (aaB w0) (b62 w0 7) dA19_0_ok) (b62 w0 7)
end Go.Proofs.YtepmohahglddnaaGreatDoor
namespace Go.Proofs.YtepmohahglddnaaGreatDoor
open Go Go.Sim
noncomputable def VK:List Fact:=[⟨[Z81],[(7,Y4s),(8,Ym),(9,Y1s),(10,Y1t),(11,Yk),(12,Yz),(13,Y10),(14,Y11),(15,Y12),(16,Y16),(17,Y17),(18,Y18),(19,Yy),(20,Y19),(21,Y1a),(22,Y0),(23,Y1),(24,Y2),(25,Y3),(26,Y4),(27,Y0),(28,Y1),(29,Y0),(30,Y1)],31,(.agg [(sn 959 3 17),(sn 976 2 2),(sn 1042 2 6),(sn 1104 3 6),(sn 1043 1 1),(sn 1116 1 6),(sn 1128 1 6),(sn 1140 5 2),(sn 1146 5 1),Zb,bt]),[],[7,8,9,10,11,12,13,14,15,16,17,18,19,20,21,22,23,24,25,26,27,28,29,30],[(959,bk 51 [Z0,Z0,.aj,Z2,Z0,.aj,Z2,Z1,.aj,Z2,Z2,.aj,Z2,Z3,.aj,Z2,Z7,.aj,Z2,Z6,.aj,Z3,Z1,.aj,Z3,Z2,.aj,Z3,Z7,.aj,Z3,Z6,.aj,Z7,Z0,(sn 908 1 2),Z7,Z0,(sn 918 1 2),Z6,Z0,(sn 928 1 2),Zb,Z0,(sn 936 1 1),Z7,Z0,(sn 946 1 2),Z6,Z0,(sn 956 1 2)]),(976,Ym),(1042,bk 12 [z19,.aj,z12,(sn 992 2 1),z12,(sn 1004 2 1),z2,(sn 1016 2 1),z2,(sn 1028 2 1),z2,(sn 1040 2 1)]),(1104,bk 18 [Z0,z13,.aj,Z0,z9,(sn 1060 2 1),Z0,z9,(sn 1072 2 1),Z1,z13,.aj,Z1,z11,(sn 1090 2 1),Z1,z11,(sn 1102 2 1)]),(1043,Yk),(1116,Y1b),(1128,Y1c),(1140,Y1d),(1146,Y1e),(908,Y1f),(918,Y1g),(928,Y1h),(936,Yx),(946,Y1i),(956,Y1j),(992,Y0),(1004,Y1),(1016,Y2),(1028,Y3),(1040,Y4),(1060,Y0),(1072,Y1),(1090,Y0),(1102,Y1)],1147⟩]
theorem dA20_0_ok:List.all VK (bM T Xo 7 1000 1000 60)=true:=by kernel_rfl
noncomputable def Xn:Nat→Option FC:=ovl T 7 60 afz (VK) Xo
set_option maxRecDepth 100000 in
theorem aaz (w0:World):dN Tryz.prog T w0 7 Xn:=bZ (aaA w0) (aN hT (aaA w0) (b60 w0 7) dA20_0_ok) (b60 w0 7)
end Go.Proofs.YtepmohahglddnaaGreatDoor
namespace Go.Proofs.YtepmohahglddnaaGreatDoor
open Go Go.Sim
noncomputable def VJ:List Fact:=[⟨[Z82],[(7,Y4t),(8,Ym),(9,Y1s),(10,Y1t),(11,Yk),(12,Y1b),(13,Y1c),(14,Y1d),(15,Y1e),(16,Y1f),(17,Y1g),(18,Y1h),(19,Yx),(20,Y1i),(21,Y1j),(22,Y0),(23,Y1),(24,Y2),(25,Y3),(26,Y4),(27,Y0),(28,Y1),(29,Y0),(30,Y1)],31,bt,[],[7,8,9,10,11,12,13,14,15,16,17,18,19,20,21,22,23,24,25,26,27,28,29,30],[],833⟩]
theorem dA21_0_ok:List.all VJ (bM T Xn 7 1000 1000 63)=true:=by kernel_rfl
noncomputable def Xm:Nat→Option FC:=ovl T 7 63 afw (VJ) Xn
set_option maxRecDepth 100000 in
theorem aay (w0:World):dN Tryz.prog T w0 7 Xm:=bZ (aaz w0) (aN hT (aaz w0) (b63 w0 7) dA21_0_ok) (b63 w0 7)
end Go.Proofs.YtepmohahglddnaaGreatDoor
