/- Sim: facts of function 18 (gameplayer/machine.New). Printed by a program (SimF3.lean). -/
import Derived.Test.YtepmohahglddnaaGreatDoorSimDA11And
set_option linter.unusedVariables false
set_option linter.unusedSimpArgs false
set_option linter.all false
namespace Go.Proofs.YtepmohahglddnaaGreatDoor
open Go Go.Sim
noncomputable def VI:List Fact:=[⟨[Z20],[(3,.blk true 40 [z14,Z1,bt,bt,z17,Z1,bt,bf,z0,Z1,bf,bt,z3,Z2,bf,bt,z1,Z2,bt,bf,z5,Z1,bt,bf,z21,Z0,bt,bf,z18,Z2,bt,bf,z20,Z2,bt,bf,z27,Z2,bf,bt]),(7,Y28),(8,Y9),(9,Ya),(10,Y29),(11,Y31),(12,Y2a),(13,Y32),(14,Y2b),(15,Y6),(16,Y20),(17,Y33),(18,Y2c),(19,Y34),(20,Y1u),(21,Y8),(22,Y1m),(23,Y35),(24,Y36),(25,Y37),(26,Y2d),(27,Y21),(28,Y1v),(29,Y5),(30,Y2e),(31,Y14),(32,Yj),(33,Y1k),(34,Yf),(35,Y2f),(36,Ye),(37,Y2g),(38,Y2),(39,Y0),(40,Y1z),(41,Y1),(42,Y1n),(43,Y15),(44,Y0),(45,Yv),(46,Y1),(47,Yw),(48,Y22),(49,Y7),(50,Y1q),(51,Y3),(52,Y1r),(53,Y4),(54,Y13),(55,Y2h),(56,Y1y),(57,Y23),(58,Y5),(59,Y24),(60,Y5),(61,Y38),(62,Y2),(63,Y2),(64,Y2),(65,Y3),(66,Y3),(67,Y3),(68,Y7),(69,Y2),(70,Y3),(71,Y7),(72,Y7),(73,Y4),(74,Y4),(75,Y7)],76,(.tup [(pt 100496),Z0]),[],[3,7,8,9,10,11,12,13,14,15,16,17,18,19,20,21,22,23,24,25,26,27,28,29,30,31,32,33,34,35,36,37,38,39,40,41,42,43,44,45,46,47,48,49,50,51,52,53,54,55,56,57,58,59,60,61,62,63,64,65,66,67,68,69,70,71,72,73,74,75],[(100496,bk 13 [(sn 99462 3 17),(sn 99479 2 2),(sn 99545 2 6),(sn 99607 3 6),(sn 99546 1 1),(sn 99619 1 6),(sn 99631 1 6),(sn 99643 5 2),(sn 99649 5 1),Zb,bt,Z0,bt]),(99462,bk 51 [Z0,Z0,.aj,Z2,Z0,.aj,Z2,Z1,.aj,Z2,Z2,.aj,Z2,Z3,.aj,Z2,Z7,.aj,Z2,Z6,.aj,Z3,Z1,.aj,Z3,Z2,.aj,Z3,Z7,.aj,Z3,Z6,.aj,Z7,Z0,(sn 99411 1 2),Z7,Z0,(sn 99421 1 2),Z6,Z0,(sn 99431 1 2),Zb,Z0,(sn 99439 1 1),Z7,Z0,(sn 99449 1 2),Z6,Z0,(sn 99459 1 2)]),(99479,Ym),(99545,bk 12 [z19,.aj,z12,(sn 99495 2 1),z12,(sn 99507 2 1),z2,(sn 99519 2 1),z2,(sn 99531 2 1),z2,(sn 99543 2 1)]),(99607,bk 18 [Z0,z13,.aj,Z0,z9,(sn 99563 2 1),Z0,z9,(sn 99575 2 1),Z1,z13,.aj,Z1,z11,(sn 99593 2 1),Z1,z11,(sn 99605 2 1)]),(99546,Yk),(99619,Y1b),(99631,Y1c),(99643,Y1d),(99649,Y1e),(99411,Y1f),(99421,Y1g),(99431,Y1h),(99439,Yx),(99449,Y1i),(99459,Y1j),(99495,Y0),(99507,Y1),(99519,Y2),(99531,Y3),(99543,Y4),(99563,Y0),(99575,Y1),(99593,Y0),(99605,Y1)],100497⟩]
theorem dA22_0_ok:List.all VI (bM T Xm 7 1000 1000 18)=true:=by kernel_rfl
noncomputable def JY:Nat→Option FC:=ovl T 7 18 afI (VI) Xm
set_option maxRecDepth 100000 in
theorem OI (w0:World):dN Tryz.prog T w0 7 JY:=bZ (aay w0) (aN hT (aay w0) (b18 w0 7) dA22_0_ok) (b18 w0 7)
end Go.Proofs.YtepmohahglddnaaGreatDoor
