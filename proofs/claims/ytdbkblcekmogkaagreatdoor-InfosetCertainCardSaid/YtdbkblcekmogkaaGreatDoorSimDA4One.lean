/- Sim: facts of function 173 (gameplayer/ground.Valid). Printed by a program (SimF3.lean). -/
import Derived.Test.YtdbkblcekmogkaaGreatDoorSimDA3One
set_option linter.unusedVariables false
set_option linter.unusedSimpArgs false
set_option linter.all false
namespace Go.Proofs.YtdbkblcekmogkaaGreatDoor
open Go Go.Sim
noncomputable def ady:List Fact:=[⟨[Z8h],[(5,Y4z),(6,bk 60 [Z0,(sn 36 1 1),.aj,Z1,.aj,.aj,Z2,(sn 37 1 2),.aj,Z2,Z62,.aj,Z5,(sn 39 1 1),.aj,Z3,Z63,.aj,Z4,Z64,.aj,Z9,Z65,.aj,Zc,.aj,.aj,Zf,.aj,.aj,Z3p,Z66,Z67,Z34,Z68,.aj,Z1w,Z69,.aj,Z21,Z6a,.aj,Z22,Z6b,.aj,Z23,Z6c,.aj,Z1v,Z6d,.aj,Z24,Z6e,.aj,Z2p,Z6f,.aj,Z2p,Z6g,.aj]),(7,Y2z),(8,Y5),(9,Y30),(10,Y31),(11,Y1z),(12,Y32),(13,Ya),(14,Yb),(15,Y5),(16,bk 2 [z11,Z37]),(17,Y33),(18,Y1p),(19,Y1f),(20,Y15),(21,Y8),(22,Y50),(23,Y34),(24,Y6),(25,Y51),(26,Y35),(27,Yh),(28,Yl),(29,Y8),(30,Y52),(31,Y36),(32,Y6),(33,Y20),(34,Y37),(35,Yg),(36,Y10),(37,Y1q),(38,Y1r),(39,Y11),(40,Y12),(41,Yi),(42,Yj),(43,Y10),(44,Y13),(45,Y13),(46,Yj),(47,Yi),(48,Yi),(49,Yi),(50,Yj),(51,Yj),(52,Y11),(53,Y12),(54,Y2),(55,Y0),(56,Y1),(57,Y3),(58,Y4),(59,Y0),(60,Y1),(61,Y2),(62,Y3),(63,Y4),(64,Y0),(65,Y1),(66,Y0),(67,Y1),(68,Y0),(69,Y1),(70,Y0),(71,Y1)],72,bt,[],[5,6,7,8,9,10,11,12,13,14,15,16,17,18,19,20,21,22,23,24,25,26,27,28,29,30,31,32,33,34,35,36,37,38,39,40,41,42,43,44,45,46,47,48,49,50,51,52,53,54,55,56,57,58,59,60,61,62,63,64,65,66,67,68,69,70,71],[],1793⟩]
theorem dA4_0_ok:List.all ady (bI T agP 5 1000 1000 173)=true:=by kernel_rfl
noncomputable def GR:Nat→Option FC:=ovl T 5 173 UF (ady) agP
set_option maxRecDepth 100000 in
theorem IW (w0:World):dD Tryz.prog T w0 5 GR:=bM (ahb w0) (aJ hT (ahb w0) (agz w0 5) dA4_0_ok) (agz w0 5)
end Go.Proofs.YtdbkblcekmogkaaGreatDoor
