/- Sim: facts of function 152 (gameplayer/ground.Valid). Printed by a program (SimF3.lean). -/
import Derived.Test.YtepmohahglddnaaGreatDoorSimDA3One
set_option linter.unusedVariables false
set_option linter.unusedSimpArgs false
set_option linter.all false
namespace Go.Proofs.YtepmohahglddnaaGreatDoor
open Go Go.Sim
noncomputable def adN:List Fact:=[⟨[Z7y],[(7,Y4k),(8,bk 60 [Z0,(sn 38 1 1),.aj,Z1,.aj,.aj,Z2,(sn 39 1 2),.aj,Z2,Z5s,.aj,Z3,(sn 41 1 1),.aj,Z7,Z5t,.aj,Z6,Z5u,.aj,Zb,Z5v,.aj,Zf,.aj,.aj,Zm,.aj,.aj,Z39,Z5w,Z5x,Z2p,Z5y,.aj,Z1p,Z5z,.aj,Z1t,Z60,.aj,Z1u,Z61,.aj,Z1v,Z62,.aj,Z1o,Z63,.aj,Z1w,Z64,.aj,Z2b,Z65,.aj,Z2b,Z66,.aj]),(9,Y2p),(10,Y5),(11,Y2q),(12,Y2r),(13,Y1x),(14,Y2s),(15,Y9),(16,Ya),(17,Y5),(18,bk 2 [z12,Z2r]),(19,Y2t),(20,Y1n),(21,Y15),(22,Yv),(23,Y8),(24,Y4l),(25,Y2u),(26,Y6),(27,Y4m),(28,Y2v),(29,Yf),(30,Yj),(31,Y8),(32,Y4n),(33,Y2w),(34,Y6),(35,Y1y),(36,Y2x),(37,Ye),(38,Yq),(39,Y1o),(40,Y1p),(41,Yr),(42,Ys),(43,Yg),(44,Yh),(45,Yq),(46,Yt),(47,Yt),(48,Yh),(49,Yg),(50,Yg),(51,Yg),(52,Yh),(53,Yh),(54,Yr),(55,Ys),(56,Y2),(57,Y0),(58,Y1),(59,Y3),(60,Y4),(61,Y0),(62,Y1),(63,Y2),(64,Y3),(65,Y4),(66,Y0),(67,Y1),(68,Y0),(69,Y1),(70,Y0),(71,Y1),(72,Y0),(73,Y1)],74,bt,[],[7,8,9,10,11,12,13,14,15,16,17,18,19,20,21,22,23,24,25,26,27,28,29,30,31,32,33,34,35,36,37,38,39,40,41,42,43,44,45,46,47,48,49,50,51,52,53,54,55,56,57,58,59,60,61,62,63,64,65,66,67,68,69,70,71,72,73],[],1795⟩]
theorem dA4_0_ok:List.all adN (bM T ag5 7 1000 1000 152)=true:=by kernel_rfl
noncomputable def Hz:Nat→Option FC:=ovl T 7 152 Vh (adN) ag5
set_option maxRecDepth 100000 in
theorem Jk (w0:World):dN Tryz.prog T w0 7 Hz:=bZ (ahs w0) (aN hT (ahs w0) (agW w0 7) dA4_0_ok) (agW w0 7)
end Go.Proofs.YtepmohahglddnaaGreatDoor
