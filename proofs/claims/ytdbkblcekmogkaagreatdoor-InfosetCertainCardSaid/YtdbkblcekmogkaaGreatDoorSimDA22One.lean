/- Sim: facts of function 13 (gameplayer/machine.New). Printed by a program (SimF3.lean). -/
import Derived.Test.YtdbkblcekmogkaaGreatDoorSimDA11And
set_option linter.unusedVariables false
set_option linter.unusedSimpArgs false
set_option linter.all false
namespace Go.Proofs.YtdbkblcekmogkaaGreatDoor
open Go Go.Sim
noncomputable def Vl:List Fact:=[⟨[Z1e],[(1,.blk true 40 [z15,Z1,bt,bt,z18,Z1,bt,bf,z0,Z1,bf,bt,z3,Z2,bf,bt,z2,Z2,bt,bf,z5,Z1,bt,bf,z23,Z0,bt,bf,z19,Z2,bt,bf,z20,Z2,bt,bf,z27,Z2,bf,bt]),(5,Y2g),(6,Ya),(7,Yb),(8,Y2h),(9,Y3b),(10,Y2i),(11,Y3c),(12,Y2j),(13,Y6),(14,Y22),(15,Y3d),(16,Y2k),(17,Y3e),(18,Y1w),(19,Y8),(20,Y1o),(21,Y3f),(22,Y3g),(23,Y3h),(24,Y2l),(25,Y23),(26,Y1x),(27,Y5),(28,Y2m),(29,Y1e),(30,Yl),(31,Y1l),(32,Yh),(33,Y2n),(34,Yg),(35,Y2o),(36,Y2),(37,Y0),(38,Y21),(39,Y1),(40,Y1p),(41,Y1f),(42,Y0),(43,Y15),(44,Y1),(45,Y16),(46,Y24),(47,Y7),(48,Y1s),(49,Y3),(50,Y1t),(51,Y4),(52,Y1d),(53,Y2p),(54,Y20),(55,Y25),(56,Y5),(57,Y26),(58,Y5),(59,Y3i),(60,Y2),(61,Y2),(62,Y2),(63,Y3),(64,Y3),(65,Y3),(66,Y7),(67,Y2),(68,Y3),(69,Y7),(70,Y7),(71,Y4),(72,Y4),(73,Y7)],74,(.tup [(pt 100494),Z0]),[],[1,5,6,7,8,9,10,11,12,13,14,15,16,17,18,19,20,21,22,23,24,25,26,27,28,29,30,31,32,33,34,35,36,37,38,39,40,41,42,43,44,45,46,47,48,49,50,51,52,53,54,55,56,57,58,59,60,61,62,63,64,65,66,67,68,69,70,71,72,73],[(100494,bk 13 [(sn 99460 3 17),(sn 99477 2 2),(sn 99543 2 6),(sn 99605 3 6),(sn 99544 1 1),(sn 99617 1 6),(sn 99629 1 6),(sn 99641 5 2),(sn 99647 5 1),Z9,bt,Z0,bt]),(99460,bk 51 [Z0,Z0,.aj,Z2,Z0,.aj,Z2,Z1,.aj,Z2,Z2,.aj,Z2,Z5,.aj,Z2,Z3,.aj,Z2,Z4,.aj,Z5,Z1,.aj,Z5,Z2,.aj,Z5,Z3,.aj,Z5,Z4,.aj,Z3,Z0,(sn 99409 1 2),Z3,Z0,(sn 99419 1 2),Z4,Z0,(sn 99429 1 2),Z9,Z0,(sn 99437 1 1),Z3,Z0,(sn 99447 1 2),Z4,Z0,(sn 99457 1 2)]),(99477,Yd),(99543,bk 12 [z17,.aj,z11,(sn 99493 2 1),z11,(sn 99505 2 1),z1,(sn 99517 2 1),z1,(sn 99529 2 1),z1,(sn 99541 2 1)]),(99605,bk 18 [Z0,z12,.aj,Z0,z9,(sn 99561 2 1),Z0,z9,(sn 99573 2 1),Z1,z12,.aj,Z1,z10,(sn 99591 2 1),Z1,z10,(sn 99603 2 1)]),(99544,Y9),(99617,Yo),(99629,Yp),(99641,Yq),(99647,Yr),(99409,Ys),(99419,Yt),(99429,Yu),(99437,Ym),(99447,Yv),(99457,Yw),(99493,Y0),(99505,Y1),(99517,Y2),(99529,Y3),(99541,Y4),(99561,Y0),(99573,Y1),(99591,Y0),(99603,Y1)],100495⟩]
theorem dA22_0_ok:List.all Vl (bI T WS 5 1000 1000 13)=true:=by kernel_rfl
noncomputable def Jz:Nat→Option FC:=ovl T 5 13 afj (Vl) WS
set_option maxRecDepth 100000 in
theorem Og (w0:World):dD Tryz.prog T w0 5 Jz:=bM (aaf w0) (aJ hT (aaf w0) (b13 w0 5) dA22_0_ok) (b13 w0 5)
end Go.Proofs.YtdbkblcekmogkaaGreatDoor
