/- Sim: facts of function 38 ((*gameplayer/gameplayerplain.reader).rule). Printed by a program (SimF3.lean). -/
import Derived.Test.YtepmohahglddnaaGreatDoorSimDA22One
set_option linter.unusedVariables false
set_option linter.unusedSimpArgs false
set_option linter.all false
namespace Go.Proofs.YtepmohahglddnaaGreatDoor
open Go Go.Sim
noncomputable def VH:List Fact:=[⟨[Z1k,z14],[(7,bk 2 [z25,Z7])],8,Z8b,[7],[],[(7,bk 2 [z25,Zj]),(14,Y9)],16⟩,⟨[Z1k,z14],[(7,bk 2 [z25,Z2m])],8,Z8b,[7],[],[(7,bk 2 [z25,Z2p]),(14,Ya)],16⟩,⟨[Z1k,z17],[(7,bk 2 [z25,Z1o])],8,(.agg [z17,Z3a,.aj]),[7],[],[(7,bk 2 [z25,(i6 37)]),(18,Y3y),(16,Y2)],20⟩,⟨[Z1k,z1],[(7,bk 2 [z25,(i6 43)])],8,Z86,[7],[],[(7,bk 2 [z25,(i6 82)]),(22,Y4u),(35,Y39),(20,Y0),(33,Y3a),(31,Y2)],36⟩,⟨[Z1k,z1],[(7,bk 2 [z25,(i6 88)])],8,Z86,[7],[],[(7,bk 2 [z25,(i6 127)]),(22,Y4u),(35,Y39),(20,Y1),(33,Y3a),(31,Y2)],36⟩,⟨[Z1k,z1],[(7,bk 2 [z25,(i6 133)])],8,(.agg [z1,Zo,Z46]),[7],[],[(7,bk 2 [z25,(i6 160)]),(18,Y6),(31,Y3b),(29,Y2i),(27,Y2)],32⟩,⟨[Z1k,z1],[(7,bk 2 [z25,(i6 166)])],8,Z86,[7],[],[(7,bk 2 [z25,(i6 201)]),(22,Y4v),(35,Y39),(20,Y0),(33,Y3a),(31,Y3)],36⟩,⟨[Z1k,z1],[(7,bk 2 [z25,(i6 207)])],8,Z86,[7],[],[(7,bk 2 [z25,(i6 242)]),(22,Y4v),(35,Y39),(20,Y1),(33,Y3a),(31,Y3)],36⟩]
theorem dA23_0_ok:List.all VH (bM T JY 7 1000 1000 38)=true:=by kernel_rfl
noncomputable def VG:List Fact:=[⟨[Z1k,z1],[(7,bk 2 [z25,(i6 248)])],8,(.agg [z1,Zo,Z46]),[7],[],[(7,bk 2 [z25,(i6 280)]),(18,Y8),(31,Y3b),(29,Y2i),(27,Y3)],32⟩,⟨[Z1k,z5],[(7,bk 2 [z25,(i6 285)])],8,(.agg [z5,Z3a,Z57]),[7],[],[(7,bk 2 [z25,(i6 320)]),(18,bk 2 [z12,Z2u]),(35,bk 3 [bf,z3,Z26]),(16,Y7),(33,Y4w),(31,Y7)],36⟩,⟨[Z1k,z5],[(7,bk 2 [z25,(i6 325)])],8,(.agg [z5,Z3a,Z46]),[7],[],[(7,bk 2 [z25,(i6 352)]),(18,Y3y),(31,Y3b),(16,Y3),(29,Y2i),(27,Y2)],32⟩,⟨[Z1k,z5],[(7,bk 2 [z25,(i6 357)])],8,(.agg [z5,Z3a,Z46]),[7],[],[(7,bk 2 [z25,(i6 384)]),(18,Y3y),(31,Y3b),(16,Y4),(29,Y2i),(27,Y3)],32⟩,⟨[Z1k,z5],[(7,bk 2 [z25,(i6 389)])],8,(.agg [z5,Z13,(sn 43 3 2)]),[7],[],[(7,bk 2 [z25,(i6 434)]),(14,Y5),(43,bk 6 [bf,z0,Z1s,bf,z3,(sn 41 2 2)]),(25,bk 2 [z12,Z1h]),(41,bk 4 [z4,.aj,z11,Zn]),(23,Y7),(39,Y7)],44⟩,⟨[Z1k,z21],[(7,bk 2 [z25,(i6 443)])],8,(.agg [z21,.aj,Z3x]),[7],[],[(7,bk 2 [z25,(i6 461)]),(23,bk 3 [bf,z0,Z3j]),(21,bk 2 [z2,Z3i]),(19,Y4)],24⟩,⟨[Z1k,z18],[(7,bk 2 [z25,(i6 466)])],8,(.agg [z18,Zo,Z3y]),[7],[],[(7,bk 2 [z25,(i6 488)]),(18,Yj),(27,bk 3 [bf,z0,Z1s]),(25,Y5)],28⟩]
theorem dA23_1_ok:List.all VG (bM T JY 7 1000 1000 38)=true:=by kernel_rfl
noncomputable def VF:List Fact:=[⟨[Z1k,z18],[(7,bk 2 [z25,(i6 493)])],8,(.agg [z18,Zo,(sn 39 3 2)]),[7],[],[(7,bk 2 [z25,(i6 535)]),(18,Yf),(39,bk 6 [bf,z0,Z15,bt,z0,(sn 37 2 1)]),(29,Y2i),(37,Y5),(27,Y4)],40⟩,⟨[Z1k,z20],[(7,bk 2 [z25,(i6 540)])],8,(.agg [z20,Zo,Z57]),[7],[],[(7,bk 2 [z25,(i6 576)]),(18,Ye),(35,bk 3 [bf,z3,Z26]),(33,Y4w),(31,Y7)],36⟩]
theorem dA23_2_ok:List.all VF (bM T JY 7 1000 1000 38)=true:=by kernel_rfl
noncomputable def Xl:Nat→Option FC:=ovl T 7 38 afF (VH++(VG++(VF))) JY
set_option maxRecDepth 100000 in
theorem aax (w0:World):dN Tryz.prog T w0 7 Xl:=bZ (OI w0) (fZ (aN hT (OI w0) (b38 w0 7) dA23_0_ok) (fZ (aN hT (OI w0) (b38 w0 7) dA23_1_ok) (aN hT (OI w0) (b38 w0 7) dA23_2_ok))) (b38 w0 7)
end Go.Proofs.YtepmohahglddnaaGreatDoor
