/- Sim: facts of function 32 ((*gameplayer/gameplayerplain.reader).rule). Printed by a program (SimF3.lean). -/
import Derived.Test.YtdbkblcekmogkaaGreatDoorSimDA22One
set_option linter.unusedVariables false
set_option linter.unusedSimpArgs false
set_option linter.all false
namespace Go.Proofs.YtdbkblcekmogkaaGreatDoor
open Go Go.Sim
noncomputable def Vk:List Fact:=[⟨[Z1a,z15],[(5,bk 2 [z25,Z3])],6,Z8v,[5],[],[(5,bk 2 [z25,Zi]),(12,Ya)],14⟩,⟨[Z1a,z15],[(5,bk 2 [z25,Z30])],6,Z8v,[5],[],[(5,bk 2 [z25,Z34]),(12,Yb)],14⟩,⟨[Z1a,z18],[(5,bk 2 [z25,Z1v])],6,(.agg [z18,Z3e,.aj]),[5],[],[(5,bk 2 [z25,(i6 37)]),(16,Y48),(14,Y2)],18⟩,⟨[Z1a,z2],[(5,bk 2 [z25,(i6 43)])],6,Z8q,[5],[],[(5,bk 2 [z25,(i6 82)]),(20,Y59),(33,Y3j),(18,Y0),(31,Y3k),(29,Y2)],34⟩,⟨[Z1a,z2],[(5,bk 2 [z25,(i6 88)])],6,Z8q,[5],[],[(5,bk 2 [z25,(i6 127)]),(20,Y59),(33,Y3j),(18,Y1),(31,Y3k),(29,Y2)],34⟩,⟨[Z1a,z2],[(5,bk 2 [z25,(i6 133)])],6,(.agg [z2,Zq,Z4e]),[5],[],[(5,bk 2 [z25,(i6 160)]),(16,Y6),(29,Y3l),(27,Y2q),(25,Y2)],30⟩,⟨[Z1a,z2],[(5,bk 2 [z25,(i6 166)])],6,Z8q,[5],[],[(5,bk 2 [z25,(i6 201)]),(20,Y5a),(33,Y3j),(18,Y0),(31,Y3k),(29,Y3)],34⟩,⟨[Z1a,z2],[(5,bk 2 [z25,(i6 207)])],6,Z8q,[5],[],[(5,bk 2 [z25,(i6 242)]),(20,Y5a),(33,Y3j),(18,Y1),(31,Y3k),(29,Y3)],34⟩]
theorem dA23_0_ok:List.all Vk (bI T Jz 5 1000 1000 32)=true:=by kernel_rfl
noncomputable def Vj:List Fact:=[⟨[Z1a,z2],[(5,bk 2 [z25,(i6 248)])],6,(.agg [z2,Zq,Z4e]),[5],[],[(5,bk 2 [z25,(i6 280)]),(16,Y8),(29,Y3l),(27,Y2q),(25,Y3)],30⟩,⟨[Z1a,z5],[(5,bk 2 [z25,(i6 285)])],6,(.agg [z5,Z3e,Z5h]),[5],[],[(5,bk 2 [z25,(i6 320)]),(16,bk 2 [z11,Z3b]),(33,bk 3 [bf,z3,Z2k]),(14,Y7),(31,Y5b),(29,Y7)],34⟩,⟨[Z1a,z5],[(5,bk 2 [z25,(i6 325)])],6,(.agg [z5,Z3e,Z4e]),[5],[],[(5,bk 2 [z25,(i6 352)]),(16,Y48),(29,Y3l),(14,Y3),(27,Y2q),(25,Y2)],30⟩,⟨[Z1a,z5],[(5,bk 2 [z25,(i6 357)])],6,(.agg [z5,Z3e,Z4e]),[5],[],[(5,bk 2 [z25,(i6 384)]),(16,Y48),(29,Y3l),(14,Y4),(27,Y2q),(25,Y3)],30⟩,⟨[Z1a,z5],[(5,bk 2 [z25,(i6 389)])],6,(.agg [z5,Z1i,(sn 41 3 2)]),[5],[],[(5,bk 2 [z25,(i6 434)]),(12,Y5),(41,bk 6 [bf,z0,Z15,bf,z3,(sn 39 2 2)]),(23,bk 2 [z11,Z1f]),(39,bk 4 [z4,.aj,z10,Zp]),(21,Y7),(37,Y7)],42⟩,⟨[Z1a,z23],[(5,bk 2 [z25,(i6 443)])],6,(.agg [z23,.aj,Z47]),[5],[],[(5,bk 2 [z25,(i6 461)]),(21,bk 3 [bf,z0,Z3y]),(19,bk 2 [z1,Z3x]),(17,Y4)],22⟩,⟨[Z1a,z19],[(5,bk 2 [z25,(i6 466)])],6,(.agg [z19,Zq,Z48]),[5],[],[(5,bk 2 [z25,(i6 488)]),(16,Yl),(25,bk 3 [bf,z0,Z15]),(23,Y5)],26⟩]
theorem dA23_1_ok:List.all Vj (bI T Jz 5 1000 1000 32)=true:=by kernel_rfl
noncomputable def Vh:List Fact:=[⟨[Z1a,z19],[(5,bk 2 [z25,(i6 493)])],6,(.agg [z19,Zq,(sn 37 3 2)]),[5],[],[(5,bk 2 [z25,(i6 535)]),(16,Yh),(37,bk 6 [bf,z0,Zs,bt,z0,(sn 35 2 1)]),(27,Y2q),(35,Y5),(25,Y4)],38⟩,⟨[Z1a,z20],[(5,bk 2 [z25,(i6 540)])],6,(.agg [z20,Zq,Z5h]),[5],[],[(5,bk 2 [z25,(i6 576)]),(16,Yg),(33,bk 3 [bf,z3,Z2k]),(31,Y5b),(29,Y7)],34⟩]
theorem dA23_2_ok:List.all Vh (bI T Jz 5 1000 1000 32)=true:=by kernel_rfl
noncomputable def WR:Nat→Option FC:=ovl T 5 32 afd (Vk++(Vj++(Vh))) Jz
set_option maxRecDepth 100000 in
theorem aae (w0:World):dD Tryz.prog T w0 5 WR:=bM (Og w0) (eU (aJ hT (Og w0) (b32 w0 5) dA23_0_ok) (eU (aJ hT (Og w0) (b32 w0 5) dA23_1_ok) (aJ hT (Og w0) (b32 w0 5) dA23_2_ok))) (b32 w0 5)
end Go.Proofs.YtdbkblcekmogkaaGreatDoor
