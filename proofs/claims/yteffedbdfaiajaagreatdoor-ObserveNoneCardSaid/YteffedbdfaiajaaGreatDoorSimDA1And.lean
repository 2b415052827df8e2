/- Sim: facts of function 184 (slices.Insert[[]gameplayer/api.GroundRule,gameplayer/api.GroundRule]). Printed by a program (SimF3.lean). -/
import Derived.Test.YteffedbdfaiajaaGreatDoorSimDA0One
set_option linter.unusedVariables false
set_option linter.unusedSimpArgs false
set_option linter.all false
namespace Go.Proofs.YteffedbdfaiajaaGreatDoor
open Go Go.Sim
noncomputable def G7:List V:=[Zf,.aj,.aj,Zo,.aj,.aj]
noncomputable def Gq:List V:=(pu1 0 [Z1,.aj,.aj] G7)
noncomputable def JQ:List V:=[Z0,Z33]
noncomputable def EM:List (Nat×FO):=[(7,bk 3 [Z1,.aj,.aj])]
noncomputable def WJ:Fact:=dS 3 0 2 6 6 G7 JQ EM Gq 8
theorem Qy (w0:WM):aT Tryz.prog T w0 6 184 WJ:=aU hT (qX w0) ⟨_,Tryz.func184,by kernel_rfl,rfl⟩ (show eU 6 3 2 6 8 EM Gq=true by kernel_rfl) (show eF T iE 6 1000 1000 184 3 0 2 6 G7 JQ EM Gq 8=true by kernel_rfl) (fun d d'=>show eu T iE 6 1000 1000 184 3 0 2 6 G7 JQ EM Gq 8 d d'=true by kernel_rfl)
noncomputable def G6:List V:=[Z1,.aj,.aj,Zf,.aj,.aj,Zo,.aj,.aj,Z1q,Z3y,.aj,Z1r,Z4o,.aj,Z1s,Z22,.aj,Z1m,Z34,.aj,Z1t,Z35,.aj]
noncomputable def Gp:List V:=(pu1 9 [Z1n,Z2x,.aj] G6)
noncomputable def JO:List V:=[Z5,Z33]
noncomputable def EL:List (Nat×FO):=[(7,bk 3 [Z1n,Z2x,.aj])]
noncomputable def WI:Fact:=dS 3 0 8 6 24 G6 JO EL Gp 14
theorem Qx (w0:WM):aT Tryz.prog T w0 6 184 WI:=aU hT (qX w0) ⟨_,Tryz.func184,by kernel_rfl,rfl⟩ (show eU 6 3 8 6 14 EL Gp=true by kernel_rfl) (show eF T iE 6 1000 1000 184 3 0 8 6 G6 JO EL Gp 14=true by kernel_rfl) (fun d d'=>show eu T iE 6 1000 1000 184 3 0 8 6 G6 JO EL Gp 14 d d'=true by kernel_rfl)
noncomputable def G5:List V:=[Z1,.aj,.aj,Zf,.aj,.aj,Zo,.aj,.aj,Z1n,Z3y,.aj,Z1q,Z4o,.aj,Z1r,Z22,.aj,Z1s,Z34,.aj,Z1m,Z35,.aj,Z1t,Z2x,.aj]
noncomputable def Gn:List V:=(pu1 3 [Z5,Z36,.aj] G5)
noncomputable def JM:List V:=[Z1,Z33]
noncomputable def EK:List (Nat×FO):=[(7,bk 3 [Z5,Z36,.aj])]
noncomputable def WH:Fact:=dS 3 0 9 6 27 G5 JM EK Gn 15
theorem Qw (w0:WM):aT Tryz.prog T w0 6 184 WH:=aU hT (qX w0) ⟨_,Tryz.func184,by kernel_rfl,rfl⟩ (show eU 6 3 9 6 15 EK Gn=true by kernel_rfl) (show eF T iE 6 1000 1000 184 3 0 9 6 G5 JM EK Gn 15=true by kernel_rfl) (fun d d'=>show eu T iE 6 1000 1000 184 3 0 9 6 G5 JM EK Gn 15 d d'=true by kernel_rfl)
noncomputable def GZ:List V:=[Z1,.aj,.aj,Z5,Z3y,.aj,Zf,.aj,.aj,Zo,.aj,.aj,Z1n,Z4o,.aj,Z1q,Z22,.aj,Z1r,Z34,.aj,Z1s,Z35,.aj,Z1m,Z2x,.aj,Z1t,Z36,.aj]
noncomputable def Gm:List V:=(pu1 6 [Z8,Z2v,.aj] GZ)
noncomputable def JL:List V:=[Z2,Z33]
noncomputable def EJ:List (Nat×FO):=[(7,bk 3 [Z8,Z2v,.aj])]
noncomputable def WG:Fact:=dS 3 0 10 6 30 GZ JL EJ Gm 16
theorem Qv (w0:WM):aT Tryz.prog T w0 6 184 WG:=aU hT (qX w0) ⟨_,Tryz.func184,by kernel_rfl,rfl⟩ (show eU 6 3 10 6 16 EJ Gm=true by kernel_rfl) (show eF T iE 6 1000 1000 184 3 0 10 6 GZ JL EJ Gm 16=true by kernel_rfl) (fun d d'=>show eu T iE 6 1000 1000 184 3 0 10 6 GZ JL EJ Gm 16 d d'=true by kernel_rfl)
noncomputable def GY:List V:=[Z1,.aj,.aj,Z5,Z3y,.aj,Z8,Z4o,.aj,Zf,.aj,.aj,Zo,.aj,.aj,Z1n,Z22,.aj,Z1q,Z34,.aj,Z1r,Z35,.aj,Z1s,Z2x,.aj,Z1m,Z36,.aj,Z1t,Z2v,.aj]
noncomputable def Gl:List V:=(pu1 9 [Z6,Z3z,.aj] GY)
noncomputable def JK:List V:=[Z5,Z33]
noncomputable def EI:List (Nat×FO):=[(7,bk 3 [Z6,Z3z,.aj])]
noncomputable def WE:Fact:=dS 3 0 11 6 33 GY JK EI Gl 17
theorem Qu (w0:WM):aT Tryz.prog T w0 6 184 WE:=aU hT (qX w0) ⟨_,Tryz.func184,by kernel_rfl,rfl⟩ (show eU 6 3 11 6 17 EI Gl=true by kernel_rfl) (show eF T iE 6 1000 1000 184 3 0 11 6 GY JK EI Gl 17=true by kernel_rfl) (fun d d'=>show eu T iE 6 1000 1000 184 3 0 11 6 GY JK EI Gl 17 d d'=true by kernel_rfl)
noncomputable def GX:List V:=[Z1,.aj,.aj,Z5,Z3y,.aj,Z8,Z4o,.aj,Z6,Z22,.aj,Zf,.aj,.aj,Zo,.aj,.aj,Z1n,Z34,.aj,Z1q,Z35,.aj,Z1r,Z2x,.aj,Z1s,Z36,.aj,Z1m,Z2v,.aj,Z1t,Z3z,.aj]
noncomputable def Gj:List V:=(pu1 12 [Zb,Z4h,.aj] GX)
noncomputable def JJ:List V:=[Z8,Z33]
noncomputable def EH:List (Nat×FO):=[(7,bk 3 [Zb,Z4h,.aj])]
noncomputable def WC:Fact:=dS 3 0 12 6 36 GX JJ EH Gj 18
theorem Qs (w0:WM):aT Tryz.prog T w0 6 184 WC:=aU hT (qX w0) ⟨_,Tryz.func184,by kernel_rfl,rfl⟩ (show eU 6 3 12 6 18 EH Gj=true by kernel_rfl) (show eF T iE 6 1000 1000 184 3 0 12 6 GX JJ EH Gj 18=true by kernel_rfl) (fun d d'=>show eu T iE 6 1000 1000 184 3 0 12 6 GX JJ EH Gj 18 d d'=true by kernel_rfl)
noncomputable def GV:List V:=[Z1,.aj,.aj,Z5,Z3y,.aj,Z8,Z4o,.aj,Z6,Z22,.aj,Zb,Z34,.aj,Zf,.aj,.aj,Zo,.aj,.aj,Z1n,Z35,.aj,Z1q,Z2x,.aj,Z1r,Z36,.aj,Z1s,Z2v,.aj,Z1m,Z3z,.aj,Z1t,Z4h,.aj]
noncomputable def Gi:List V:=(pu1 3 [Z2,Z5h,.aj] GV)
noncomputable def JI:List V:=[Z1,Z33]
noncomputable def EG:List (Nat×FO):=[(7,bk 3 [Z2,Z5h,.aj])]
noncomputable def WB:Fact:=dS 3 0 13 6 39 GV JI EG Gi 19
theorem Qr (w0:WM):aT Tryz.prog T w0 6 184 WB:=aU hT (qX w0) ⟨_,Tryz.func184,by kernel_rfl,rfl⟩ (show eU 6 3 13 6 19 EG Gi=true by kernel_rfl) (show eF T iE 6 1000 1000 184 3 0 13 6 GV JI EG Gi 19=true by kernel_rfl) (fun d d'=>show eu T iE 6 1000 1000 184 3 0 13 6 GV JI EG Gi 19 d d'=true by kernel_rfl)
noncomputable def GU:List V:=[Z1,.aj,.aj,Z2,(sn 8 1 2),.aj,Z5,Z4o,.aj,Z8,Z22,.aj,Z6,Z34,.aj,Zb,Z35,.aj,Zf,.aj,.aj,Zo,.aj,.aj,Z1n,Z2x,.aj,Z1q,Z36,.aj,Z1r,Z2v,.aj,Z1s,Z3z,.aj,Z1m,Z4h,.aj,Z1t,Z40,.aj]
noncomputable def Gg:List V:=(pu1 6 [Z2,Z37,.aj] GU)
noncomputable def JH:List V:=[Z2,Z33]
noncomputable def EF:List (Nat×FO):=[(7,bk 3 [Z2,Z37,.aj])]
noncomputable def WA:Fact:=dS 3 0 14 6 42 GU JH EF Gg 20
theorem Qq (w0:WM):aT Tryz.prog T w0 6 184 WA:=aU hT (qX w0) ⟨_,Tryz.func184,by kernel_rfl,rfl⟩ (show eU 6 3 14 6 20 EF Gg=true by kernel_rfl) (show eF T iE 6 1000 1000 184 3 0 14 6 GU JH EF Gg 20=true by kernel_rfl) (fun d d'=>show eu T iE 6 1000 1000 184 3 0 14 6 GU JH EF Gg 20 d d'=true by kernel_rfl)
noncomputable def GR:List V:=[Z1,.aj,.aj,Z2,(sn 8 1 2),.aj,Z2,Z6u,.aj,Z5,Z22,.aj,Z8,Z34,.aj,Z6,Z35,.aj,Zb,Z2x,.aj,Zf,.aj,.aj,Zo,.aj,.aj,Z1n,Z36,.aj,Z1q,Z2v,.aj,Z1r,Z3z,.aj,Z1s,Z4h,.aj,Z1m,Z40,.aj,Z1t,Z5i,.aj]
noncomputable def Gf:List V:=(pu1 0 [Z0,Z4p,.aj] GR)
noncomputable def JG:List V:=[Z0,Z33]
noncomputable def EC:List (Nat×FO):=[(7,bk 3 [Z0,Z4p,.aj])]
noncomputable def Wy:Fact:=dS 3 0 15 6 45 GR JG EC Gf 21
theorem Qp (w0:WM):aT Tryz.prog T w0 6 184 Wy:=aU hT (qX w0) ⟨_,Tryz.func184,by kernel_rfl,rfl⟩ (show eU 6 3 15 6 21 EC Gf=true by kernel_rfl) (show eF T iE 6 1000 1000 184 3 0 15 6 GR JG EC Gf 21=true by kernel_rfl) (fun d d'=>show eu T iE 6 1000 1000 184 3 0 15 6 GR JG EC Gf 21 d d'=true by kernel_rfl)
noncomputable def GN:List V:=[Z0,Z3y,.aj,Z1,.aj,.aj,Z2,Z6u,.aj,Z2,(sn 10 1 2),.aj,Z5,Z34,.aj,Z8,Z35,.aj,Z6,Z2x,.aj,Zb,Z36,.aj,Zf,.aj,.aj,Zo,.aj,.aj,Z1n,Z2v,.aj,Z1q,Z3z,.aj,Z1r,Z4h,.aj,Z1s,Z40,.aj,Z1m,Z5i,.aj,Z1t,Z4p,.aj]
noncomputable def F9:List V:=(pu1 30 [Z2p,Z6v,.aj] GN)
noncomputable def JF:List V:=[Zn,Z33]
noncomputable def Ez:List (Nat×FO):=[(7,bk 3 [Z2p,Z6v,.aj])]
noncomputable def Wx:Fact:=dS 3 0 16 6 48 GN JF Ez F9 22
theorem Qo (w0:WM):aT Tryz.prog T w0 6 184 Wx:=aU hT (qX w0) ⟨_,Tryz.func184,by kernel_rfl,rfl⟩ (show eU 6 3 16 6 22 Ez F9=true by kernel_rfl) (show eF T iE 6 1000 1000 184 3 0 16 6 GN JF Ez F9 22=true by kernel_rfl) (fun d d'=>show eu T iE 6 1000 1000 184 3 0 16 6 GN JF Ez F9 22 d d'=true by kernel_rfl)
noncomputable def zu:List V:=[Z0,Z3y,.aj,Z1,.aj,.aj,Z2,Z6u,.aj,Z2,(sn 10 1 2),.aj,Z5,Z34,.aj,Z8,Z35,.aj,Z6,Z2x,.aj,Zb,Z36,.aj,Zf,.aj,.aj,Zo,.aj,.aj,Z2p,Z2v,.aj,Z1n,Z3z,.aj,Z1q,Z4h,.aj,Z1r,Z40,.aj,Z1s,Z5i,.aj,Z1m,Z4p,.aj,Z1t,Z6v,.aj]
noncomputable def yR:List V:=(pu1 30 [Z38,(sn 22 1 1),(sn 23 1 1)] zu)
noncomputable def CB:List V:=[Zn,Z33]
noncomputable def xZ:List (Nat×FO):=[(7,bk 3 [Z38,(sn 22 1 1),(sn 23 1 1)])]
noncomputable def Nj:Fact:=dS 3 0 17 6 51 zu CB xZ yR 24
theorem Nh (w0:WM):aT Tryz.prog T w0 6 184 Nj:=aU hT (qX w0) ⟨_,Tryz.func184,by kernel_rfl,rfl⟩ (show eU 6 3 17 6 24 xZ yR=true by kernel_rfl) (show eF T iE 6 1000 1000 184 3 0 17 6 zu CB xZ yR 24=true by kernel_rfl) (fun d d'=>show eu T iE 6 1000 1000 184 3 0 17 6 zu CB xZ yR 24 d d'=true by kernel_rfl)
noncomputable def aa6:Nat→Option FC:=ovl T 6 184 L6 [WJ,WI,WH,WG,WE,WC,WB,WA,Wy,Wx,Nj] iE
set_option maxRecDepth 100000 in
theorem abz (w0:WM):bU Tryz.prog T w0 6 aa6:=bJ (qX w0) (aH (Qy w0) (aH (Qx w0) (aH (Qw w0) (aH (Qv w0) (aH (Qu w0) (aH (Qs w0) (aH (Qr w0) (aH (Qq w0) (aH (Qp w0) (aH (Qo w0) (aH (Nh w0) jU))))))))))) (ac8 w0 6)
end Go.Proofs.YteffedbdfaiajaaGreatDoor
namespace Go.Proofs.YteffedbdfaiajaaGreatDoor
open Go Go.Sim
noncomputable def Wv:List Fact:=[⟨[z13],[],6,bt,[],[],[],12⟩,⟨[z6],[],6,bt,[],[],[],14⟩,⟨[z4],[],6,bt,[],[],[],9⟩,⟨[z17],[],6,bt,[],[],[],12⟩,⟨[z2],[],6,bt,[],[],[],12⟩,⟨[z1],[],6,bt,[],[],[],13⟩,⟨[z9],[],6,bt,[],[],[],12⟩,⟨[z7],[],6,bt,[],[],[],13⟩,⟨[z0],[],6,bt,[],[],[],12⟩,⟨[z8],[],6,bt,[],[],[],13⟩,⟨[z14],[],6,bt,[],[],[],12⟩,⟨[z11],[],6,bt,[],[],[],13⟩,⟨[z5],[],6,bt,[],[],[],12⟩,⟨[z12],[],6,bt,[],[],[],12⟩,⟨[z22],[],6,bf,[],[],[],8⟩,⟨[z3],[],6,bt,[],[],[],12⟩,⟨[z19],[],6,bt,[],[],[],11⟩,⟨[z21],[],6,bt,[],[],[],16⟩,⟨[z18],[],6,bt,[],[],[],12⟩,⟨[z20],[],6,bt,[],[],[],12⟩,⟨[z23],[],6,bt,[],[],[],13⟩,⟨[z10],[],6,bf,[],[],[],8⟩,⟨[z15],[],6,bf,[],[],[],8⟩,⟨[z16],[],6,bf,[],[],[],8⟩,⟨[z26],[],6,bf,[],[],[],8⟩]
theorem dA2_0_ok:List.all Wv (bH T aa6 6 1000 1000 165)=true:=by kernel_rfl
noncomputable def QV:Nat→Option FC:=ovl T 6 165 L8 (Wv) aa6
set_option maxRecDepth 100000 in
theorem XV (w0:WM):bU Tryz.prog T w0 6 QV:=bJ (abz w0) (aJ hT (abz w0) (aaT w0 6) dA2_0_ok) (aaT w0 6)
end Go.Proofs.YteffedbdfaiajaaGreatDoor
