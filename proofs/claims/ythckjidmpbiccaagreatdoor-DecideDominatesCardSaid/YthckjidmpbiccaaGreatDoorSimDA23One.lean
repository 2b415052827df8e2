/- Sim: facts of function 31 ((*gameplayer/gameplayerplain.reader).rule). Printed by a program (SimF3.lean). -/
import Derived.Test.YthckjidmpbiccaaGreatDoorSimDA14And
set_option linter.unusedVariables false
set_option linter.unusedSimpArgs false
set_option linter.all false
namespace Go.Proofs.YthckjidmpbiccaaGreatDoor
open Go Go.Sim
noncomputable def WE:List Fact:=[⟨[Z1c,z14],[(8,bk 2 [z25,Z3])],9,Z8k,[8],[],[(8,bk 2 [z25,Zi]),(15,Y9)],17⟩,⟨[Z1c,z14],[(8,bk 2 [z25,Z31])],9,Z8k,[8],[],[(8,bk 2 [z25,Z35]),(15,Ya)],17⟩,⟨[Z1c,z18],[(8,bk 2 [z25,Z1v])],9,(.agg [z18,Z3o,.aj]),[8],[],[(8,bk 2 [z25,(i6 37)]),(19,Y48),(17,Y2)],21⟩,⟨[Z1c,z2],[(8,bk 2 [z25,(i6 43)])],9,Z8f,[8],[],[(8,bk 2 [z25,(i6 82)]),(23,Y54),(36,Y3i),(21,Y0),(34,Y3j),(32,Y2)],37⟩,⟨[Z1c,z2],[(8,bk 2 [z25,(i6 88)])],9,Z8f,[8],[],[(8,bk 2 [z25,(i6 127)]),(23,Y54),(36,Y3i),(21,Y1),(34,Y3j),(32,Y2)],37⟩,⟨[Z1c,z2],[(8,bk 2 [z25,(i6 133)])],9,(.agg [z2,Zr,Z4d]),[8],[],[(8,bk 2 [z25,(i6 160)]),(19,Y6),(32,Y3k),(30,Y2n),(28,Y2)],33⟩,⟨[Z1c,z2],[(8,bk 2 [z25,(i6 166)])],9,Z8f,[8],[],[(8,bk 2 [z25,(i6 201)]),(23,Y55),(36,Y3i),(21,Y0),(34,Y3j),(32,Y3)],37⟩,⟨[Z1c,z2],[(8,bk 2 [z25,(i6 207)])],9,Z8f,[8],[],[(8,bk 2 [z25,(i6 242)]),(23,Y55),(36,Y3i),(21,Y1),(34,Y3j),(32,Y3)],37⟩]
theorem dA23_0_ok:List.all WE (bI T KF 8 1000 1000 31)=true:=by kernel_rfl
noncomputable def WC:List Fact:=[⟨[Z1c,z2],[(8,bk 2 [z25,(i6 248)])],9,(.agg [z2,Zr,Z4d]),[8],[],[(8,bk 2 [z25,(i6 280)]),(19,Y8),(32,Y3k),(30,Y2n),(28,Y3)],33⟩,⟨[Z1c,z5],[(8,bk 2 [z25,(i6 285)])],9,(.agg [z5,Z3o,Z5d]),[8],[],[(8,bk 2 [z25,(i6 320)]),(19,bk 2 [z11,Z3d]),(36,bk 3 [bf,z3,Z2h]),(17,Y7),(34,Y56),(32,Y7)],37⟩,⟨[Z1c,z5],[(8,bk 2 [z25,(i6 325)])],9,(.agg [z5,Z3o,Z4d]),[8],[],[(8,bk 2 [z25,(i6 352)]),(19,Y48),(32,Y3k),(17,Y3),(30,Y2n),(28,Y2)],33⟩,⟨[Z1c,z5],[(8,bk 2 [z25,(i6 357)])],9,(.agg [z5,Z3o,Z4d]),[8],[],[(8,bk 2 [z25,(i6 384)]),(19,Y48),(32,Y3k),(17,Y4),(30,Y2n),(28,Y3)],33⟩,⟨[Z1c,z5],[(8,bk 2 [z25,(i6 389)])],9,(.agg [z5,Z1h,(sn 44 3 2)]),[8],[],[(8,bk 2 [z25,(i6 434)]),(15,Y5),(44,bk 6 [bf,z0,Z12,bf,z3,(sn 42 2 2)]),(26,bk 2 [z11,Z1i]),(42,bk 4 [z4,.aj,z10,Zq]),(24,Y7),(40,Y7)],45⟩,⟨[Z1c,z23],[(8,bk 2 [z25,(i6 443)])],9,(.agg [z23,.aj,Z43]),[8],[],[(8,bk 2 [z25,(i6 461)]),(24,bk 3 [bf,z0,Z3w]),(22,bk 2 [z1,Z3v]),(20,Y4)],25⟩,⟨[Z1c,z19],[(8,bk 2 [z25,(i6 466)])],9,(.agg [z19,Zr,Z44]),[8],[],[(8,bk 2 [z25,(i6 488)]),(19,Yl),(28,bk 3 [bf,z0,Z12]),(26,Y5)],29⟩]
theorem dA23_1_ok:List.all WC (bI T KF 8 1000 1000 31)=true:=by kernel_rfl
noncomputable def WB:List Fact:=[⟨[Z1c,z19],[(8,bk 2 [z25,(i6 493)])],9,(.agg [z19,Zr,(sn 40 3 2)]),[8],[],[(8,bk 2 [z25,(i6 535)]),(19,Yh),(40,bk 6 [bf,z0,Zt,bt,z0,(sn 38 2 1)]),(30,Y2n),(38,Y5),(28,Y4)],41⟩,⟨[Z1c,z20],[(8,bk 2 [z25,(i6 540)])],9,(.agg [z20,Zr,Z5d]),[8],[],[(8,bk 2 [z25,(i6 576)]),(19,Yg),(36,bk 3 [bf,z3,Z2h]),(34,Y56),(32,Y7)],37⟩]
theorem dA23_2_ok:List.all WB (bI T KF 8 1000 1000 31)=true:=by kernel_rfl
noncomputable def X7:Nat→Option FC:=ovl T 8 31 agT (WE++(WC++(WB))) KF
set_option maxRecDepth 100000 in
theorem aa8 (w0:World):dJ Tryz.prog T w0 8 X7:=bT (Pj w0) (gy (aK hT (Pj w0) (b31 w0 8) dA23_0_ok) (gy (aK hT (Pj w0) (b31 w0 8) dA23_1_ok) (aK hT (Pj w0) (b31 w0 8) dA23_2_ok))) (b31 w0 8)
end Go.Proofs.YthckjidmpbiccaaGreatDoor
