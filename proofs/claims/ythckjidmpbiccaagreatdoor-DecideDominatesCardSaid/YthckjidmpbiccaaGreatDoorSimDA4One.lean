/- Sim: facts of function 199 (gameplayer/ground.Valid). Printed by a program (SimF3.lean). -/
import Derived.Test.YthckjidmpbiccaaGreatDoorSimDA3One
set_option linter.unusedVariables false
set_option linter.unusedSimpArgs false
set_option linter.all false
namespace Go.Proofs.YthckjidmpbiccaaGreatDoor
open Go Go.Sim
noncomputable def ae7:List Fact:=[⟨[Z86],[(8,Y4u),(9,bk 60 [Z0,(sn 39 1 1),.aj,Z1,.aj,.aj,Z2,(sn 40 1 2),.aj,Z2,Z5z,.aj,Z5,(sn 42 1 1),.aj,Z3,Z60,.aj,Z4,Z61,.aj,Z9,Z62,.aj,Zd,.aj,.aj,Zf,.aj,.aj,Z3n,Z63,Z64,Z35,Z65,.aj,Z1w,Z66,.aj,Z21,Z67,.aj,Z22,Z68,.aj,Z23,Z69,.aj,Z1v,Z6a,.aj,Z24,Z6b,.aj,Z2n,Z6c,.aj,Z2n,Z6d,.aj]),(10,Y2y),(11,Y5),(12,Y2z),(13,Y30),(14,Y22),(15,Y31),(16,Y9),(17,Ya),(18,Y5),(19,bk 2 [z11,Z39]),(20,Y32),(21,Y1s),(22,Y1h),(23,Y15),(24,Y8),(25,Y4v),(26,Y33),(27,Y6),(28,Y4w),(29,Y34),(30,Yh),(31,Yl),(32,Y8),(33,Y4x),(34,Y35),(35,Y6),(36,Y23),(37,Y36),(38,Yg),(39,Y10),(40,Y1t),(41,Y1u),(42,Y11),(43,Y12),(44,Yi),(45,Yj),(46,Y10),(47,Y13),(48,Y13),(49,Yj),(50,Yi),(51,Yi),(52,Yi),(53,Yj),(54,Yj),(55,Y11),(56,Y12),(57,Y2),(58,Y0),(59,Y1),(60,Y3),(61,Y4),(62,Y0),(63,Y1),(64,Y2),(65,Y3),(66,Y4),(67,Y0),(68,Y1),(69,Y0),(70,Y1),(71,Y0),(72,Y1),(73,Y0),(74,Y1)],75,bt,[],[8,9,10,11,12,13,14,15,16,17,18,19,20,21,22,23,24,25,26,27,28,29,30,31,32,33,34,35,36,37,38,39,40,41,42,43,44,45,46,47,48,49,50,51,52,53,54,55,56,57,58,59,60,61,62,63,64,65,66,67,68,69,70,71,72,73,74],[],1796⟩]
theorem dA4_0_ok:List.all ae7 (bI T aip 8 1000 1000 199)=true:=by kernel_rfl
noncomputable def Ir:Nat→Option FC:=ovl T 8 199 VO (ae7) aip
set_option maxRecDepth 100000 in
theorem JF (w0:World):dJ Tryz.prog T w0 8 Ir:=bT (aiL w0) (aK hT (aiL w0) (ah7 w0 8) dA4_0_ok) (ah7 w0 8)
end Go.Proofs.YthckjidmpbiccaaGreatDoor
