/- Sim: facts of function 199 (slices.Insert[[]gameplayer/api.GroundRule,gameplayer/api.GroundRule]). Printed by a program (SimF3.lean). -/
import Derived.Test.YtbhfbliodeagmaaGreatDoorSimDA0One
set_option linter.all false
namespace Go.Proofs.YtbhfbliodeagmaaGreatDoor
open Go Go.Sim
noncomputable def Ul:List V:=[Zf,.aj,.aj,Zo,.aj,.aj]
noncomputable def TG:List V:=(pu1 0 [Z1,.aj,.aj] Ul)
noncomputable def Xc:List V:=[Z0,Z33]
noncomputable def Q7:List (Nat×FO):=[(7,bk 3 [Z1,.aj,.aj])]
noncomputable def ag9:Fact:=gu 3 0 2 6 6 Ul Xc Q7 TG 8
theorem acY (w0:WM):aZ Tryz.prog T w0 6 199 ag9:=bg hT (Az w0) ⟨_,Tryz.func199,by kernel_rfl,rfl⟩ (show iy 6 3 2 6 8 Q7 TG=true by kernel_rfl) (show gY T kQ 6 1000 1000 199 3 0 2 6 Ul Xc Q7 TG 8=true by kernel_rfl) (fun d d'=>show gX T kQ 6 1000 1000 199 3 0 2 6 Ul Xc Q7 TG 8 d d'=true by kernel_rfl)
noncomputable def Uk:List V:=[Z1,.aj,.aj,Zf,.aj,.aj,Zo,.aj,.aj,Z1q,Z3y,.aj,Z1r,Z4o,.aj,Z1s,Z22,.aj,Z1m,Z34,.aj,Z1t,Z35,.aj]
noncomputable def TF:List V:=(pu1 9 [Z1n,Z2x,.aj] Uk)
noncomputable def Xb:List V:=[Z5,Z33]
noncomputable def Q5:List (Nat×FO):=[(7,bk 3 [Z1n,Z2x,.aj])]
noncomputable def ag8:Fact:=gu 3 0 8 6 24 Uk Xb Q5 TF 14
theorem acX (w0:WM):aZ Tryz.prog T w0 6 199 ag8:=bg hT (Az w0) ⟨_,Tryz.func199,by kernel_rfl,rfl⟩ (show iy 6 3 8 6 14 Q5 TF=true by kernel_rfl) (show gY T kQ 6 1000 1000 199 3 0 8 6 Uk Xb Q5 TF 14=true by kernel_rfl) (fun d d'=>show gX T kQ 6 1000 1000 199 3 0 8 6 Uk Xb Q5 TF 14 d d'=true by kernel_rfl)
noncomputable def Uj:List V:=[Z1,.aj,.aj,Zf,.aj,.aj,Zo,.aj,.aj,Z1n,Z3y,.aj,Z1q,Z4o,.aj,Z1r,Z22,.aj,Z1s,Z34,.aj,Z1m,Z35,.aj,Z1t,Z2x,.aj]
noncomputable def TD:List V:=(pu1 3 [Z5,Z36,.aj] Uj)
noncomputable def Xa:List V:=[Z1,Z33]
noncomputable def QZ:List (Nat×FO):=[(7,bk 3 [Z5,Z36,.aj])]
noncomputable def ag7:Fact:=gu 3 0 9 6 27 Uj Xa QZ TD 15
theorem acW (w0:WM):aZ Tryz.prog T w0 6 199 ag7:=bg hT (Az w0) ⟨_,Tryz.func199,by kernel_rfl,rfl⟩ (show iy 6 3 9 6 15 QZ TD=true by kernel_rfl) (show gY T kQ 6 1000 1000 199 3 0 9 6 Uj Xa QZ TD 15=true by kernel_rfl) (fun d d'=>show gX T kQ 6 1000 1000 199 3 0 9 6 Uj Xa QZ TD 15 d d'=true by kernel_rfl)
noncomputable def Ui:List V:=[Z1,.aj,.aj,Z5,Z3y,.aj,Zf,.aj,.aj,Zo,.aj,.aj,Z1n,Z4o,.aj,Z1q,Z22,.aj,Z1r,Z34,.aj,Z1s,Z35,.aj,Z1m,Z2x,.aj,Z1t,Z36,.aj]
noncomputable def TB:List V:=(pu1 6 [Z8,Z2v,.aj] Ui)
noncomputable def W9:List V:=[Z2,Z33]
noncomputable def QY:List (Nat×FO):=[(7,bk 3 [Z8,Z2v,.aj])]
noncomputable def ag6:Fact:=gu 3 0 10 6 30 Ui W9 QY TB 16
theorem acV (w0:WM):aZ Tryz.prog T w0 6 199 ag6:=bg hT (Az w0) ⟨_,Tryz.func199,by kernel_rfl,rfl⟩ (show iy 6 3 10 6 16 QY TB=true by kernel_rfl) (show gY T kQ 6 1000 1000 199 3 0 10 6 Ui W9 QY TB 16=true by kernel_rfl) (fun d d'=>show gX T kQ 6 1000 1000 199 3 0 10 6 Ui W9 QY TB 16 d d'=true by kernel_rfl)
noncomputable def Uh:List V:=[Z1,.aj,.aj,Z5,Z3y,.aj,Z8,Z4o,.aj,Zf,.aj,.aj,Zo,.aj,.aj,Z1n,Z22,.aj,Z1q,Z34,.aj,Z1r,Z35,.aj,Z1s,Z2x,.aj,Z1m,Z36,.aj,Z1t,Z2v,.aj]
noncomputable def TA:List V:=(pu1 9 [Z6,Z3z,.aj] Uh)
noncomputable def WZ:List V:=[Z5,Z33]
noncomputable def QW:List (Nat×FO):=[(7,bk 3 [Z6,Z3z,.aj])]
noncomputable def ag5:Fact:=gu 3 0 11 6 33 Uh WZ QW TA 17
theorem acU (w0:WM):aZ Tryz.prog T w0 6 199 ag5:=bg hT (Az w0) ⟨_,Tryz.func199,by kernel_rfl,rfl⟩ (show iy 6 3 11 6 17 QW TA=true by kernel_rfl) (show gY T kQ 6 1000 1000 199 3 0 11 6 Uh WZ QW TA 17=true by kernel_rfl) (fun d d'=>show gX T kQ 6 1000 1000 199 3 0 11 6 Uh WZ QW TA 17 d d'=true by kernel_rfl)
noncomputable def Ug:List V:=[Z1,.aj,.aj,Z5,Z3y,.aj,Z8,Z4o,.aj,Z6,Z22,.aj,Zf,.aj,.aj,Zo,.aj,.aj,Z1n,Z34,.aj,Z1q,Z35,.aj,Z1r,Z2x,.aj,Z1s,Z36,.aj,Z1m,Z2v,.aj,Z1t,Z3z,.aj]
noncomputable def Tz:List V:=(pu1 12 [Zb,Z4h,.aj] Ug)
noncomputable def WY:List V:=[Z8,Z33]
noncomputable def QV:List (Nat×FO):=[(7,bk 3 [Zb,Z4h,.aj])]
noncomputable def ag4:Fact:=gu 3 0 12 6 36 Ug WY QV Tz 18
theorem acT (w0:WM):aZ Tryz.prog T w0 6 199 ag4:=bg hT (Az w0) ⟨_,Tryz.func199,by kernel_rfl,rfl⟩ (show iy 6 3 12 6 18 QV Tz=true by kernel_rfl) (show gY T kQ 6 1000 1000 199 3 0 12 6 Ug WY QV Tz 18=true by kernel_rfl) (fun d d'=>show gX T kQ 6 1000 1000 199 3 0 12 6 Ug WY QV Tz 18 d d'=true by kernel_rfl)
noncomputable def Uf:List V:=[Z1,.aj,.aj,Z5,Z3y,.aj,Z8,Z4o,.aj,Z6,Z22,.aj,Zb,Z34,.aj,Zf,.aj,.aj,Zo,.aj,.aj,Z1n,Z35,.aj,Z1q,Z2x,.aj,Z1r,Z36,.aj,Z1s,Z2v,.aj,Z1m,Z3z,.aj,Z1t,Z4h,.aj]
noncomputable def Tv:List V:=(pu1 3 [Z2,Z5h,.aj] Uf)
noncomputable def WX:List V:=[Z1,Z33]
noncomputable def QU:List (Nat×FO):=[(7,bk 3 [Z2,Z5h,.aj])]
noncomputable def ag3:Fact:=gu 3 0 13 6 39 Uf WX QU Tv 19
theorem acS (w0:WM):aZ Tryz.prog T w0 6 199 ag3:=bg hT (Az w0) ⟨_,Tryz.func199,by kernel_rfl,rfl⟩ (show iy 6 3 13 6 19 QU Tv=true by kernel_rfl) (show gY T kQ 6 1000 1000 199 3 0 13 6 Uf WX QU Tv 19=true by kernel_rfl) (fun d d'=>show gX T kQ 6 1000 1000 199 3 0 13 6 Uf WX QU Tv 19 d d'=true by kernel_rfl)
noncomputable def Ue:List V:=[Z1,.aj,.aj,Z2,(sn 8 1 2),.aj,Z5,Z4o,.aj,Z8,Z22,.aj,Z6,Z34,.aj,Zb,Z35,.aj,Zf,.aj,.aj,Zo,.aj,.aj,Z1n,Z2x,.aj,Z1q,Z36,.aj,Z1r,Z2v,.aj,Z1s,Z3z,.aj,Z1m,Z4h,.aj,Z1t,Z40,.aj]
noncomputable def Tt:List V:=(pu1 6 [Z2,Z37,.aj] Ue)
noncomputable def WW:List V:=[Z2,Z33]
noncomputable def QS:List (Nat×FO):=[(7,bk 3 [Z2,Z37,.aj])]
noncomputable def ag2:Fact:=gu 3 0 14 6 42 Ue WW QS Tt 20
theorem acR (w0:WM):aZ Tryz.prog T w0 6 199 ag2:=bg hT (Az w0) ⟨_,Tryz.func199,by kernel_rfl,rfl⟩ (show iy 6 3 14 6 20 QS Tt=true by kernel_rfl) (show gY T kQ 6 1000 1000 199 3 0 14 6 Ue WW QS Tt 20=true by kernel_rfl) (fun d d'=>show gX T kQ 6 1000 1000 199 3 0 14 6 Ue WW QS Tt 20 d d'=true by kernel_rfl)
noncomputable def Ud:List V:=[Z1,.aj,.aj,Z2,(sn 8 1 2),.aj,Z2,Z6u,.aj,Z5,Z22,.aj,Z8,Z34,.aj,Z6,Z35,.aj,Zb,Z2x,.aj,Zf,.aj,.aj,Zo,.aj,.aj,Z1n,Z36,.aj,Z1q,Z2v,.aj,Z1r,Z3z,.aj,Z1s,Z4h,.aj,Z1m,Z40,.aj,Z1t,Z5i,.aj]
noncomputable def Tq:List V:=(pu1 0 [Z0,Z4p,.aj] Ud)
noncomputable def WV:List V:=[Z0,Z33]
noncomputable def QO:List (Nat×FO):=[(7,bk 3 [Z0,Z4p,.aj])]
noncomputable def ag1:Fact:=gu 3 0 15 6 45 Ud WV QO Tq 21
theorem acQ (w0:WM):aZ Tryz.prog T w0 6 199 ag1:=bg hT (Az w0) ⟨_,Tryz.func199,by kernel_rfl,rfl⟩ (show iy 6 3 15 6 21 QO Tq=true by kernel_rfl) (show gY T kQ 6 1000 1000 199 3 0 15 6 Ud WV QO Tq 21=true by kernel_rfl) (fun d d'=>show gX T kQ 6 1000 1000 199 3 0 15 6 Ud WV QO Tq 21 d d'=true by kernel_rfl)
noncomputable def Uc:List V:=[Z0,Z3y,.aj,Z1,.aj,.aj,Z2,Z6u,.aj,Z2,(sn 10 1 2),.aj,Z5,Z34,.aj,Z8,Z35,.aj,Z6,Z2x,.aj,Zb,Z36,.aj,Zf,.aj,.aj,Zo,.aj,.aj,Z1n,Z2v,.aj,Z1q,Z3z,.aj,Z1r,Z4h,.aj,Z1s,Z40,.aj,Z1m,Z5i,.aj,Z1t,Z4p,.aj]
noncomputable def Tn:List V:=(pu1 30 [Z2p,Z6v,.aj] Uc)
noncomputable def WU:List V:=[Zn,Z33]
noncomputable def QN:List (Nat×FO):=[(7,bk 3 [Z2p,Z6v,.aj])]
noncomputable def ag0:Fact:=gu 3 0 16 6 48 Uc WU QN Tn 22
theorem acP (w0:WM):aZ Tryz.prog T w0 6 199 ag0:=bg hT (Az w0) ⟨_,Tryz.func199,by kernel_rfl,rfl⟩ (show iy 6 3 16 6 22 QN Tn=true by kernel_rfl) (show gY T kQ 6 1000 1000 199 3 0 16 6 Uc WU QN Tn 22=true by kernel_rfl) (fun d d'=>show gX T kQ 6 1000 1000 199 3 0 16 6 Uc WU QN Tn 22 d d'=true by kernel_rfl)
noncomputable def J7:List V:=[Z0,Z3y,.aj,Z1,.aj,.aj,Z2,Z6u,.aj,Z2,(sn 10 1 2),.aj,Z5,Z34,.aj,Z8,Z35,.aj,Z6,Z2x,.aj,Zb,Z36,.aj,Zf,.aj,.aj,Zo,.aj,.aj,Z2p,Z2v,.aj,Z1n,Z3z,.aj,Z1q,Z4h,.aj,Z1r,Z40,.aj,Z1s,Z5i,.aj,Z1m,Z4p,.aj,Z1t,Z6v,.aj]
noncomputable def JI:List V:=(pu1 30 [Z38,(sn 22 1 1),(sn 23 1 1)] J7)
noncomputable def OA:List V:=[Zn,Z33]
noncomputable def IW:List (Nat×FO):=[(7,bk 3 [Z38,(sn 22 1 1),(sn 23 1 1)])]
noncomputable def aap:Fact:=gu 3 0 17 6 51 J7 OA IW JI 24
theorem aao (w0:WM):aZ Tryz.prog T w0 6 199 aap:=bg hT (Az w0) ⟨_,Tryz.func199,by kernel_rfl,rfl⟩ (show iy 6 3 17 6 24 IW JI=true by kernel_rfl) (show gY T kQ 6 1000 1000 199 3 0 17 6 J7 OA IW JI 24=true by kernel_rfl) (fun d d'=>show gX T kQ 6 1000 1000 199 3 0 17 6 J7 OA IW JI 24 d d'=true by kernel_rfl)
noncomputable def akp:Nat→Option FC:=ovl T 6 199 ZB [ag9,ag8,ag7,ag6,ag5,ag4,ag3,ag2,ag1,ag0,aap] kQ
set_option maxRecDepth 100000 in
theorem akS (w0:WM):dK Tryz.prog T w0 6 akp:=dA (Az w0) (aJ (acY w0) (aJ (acX w0) (aJ (acW w0) (aJ (acV w0) (aJ (acU w0) (aJ (acT w0) (aJ (acS w0) (aJ (acR w0) (aJ (acQ w0) (aJ (acP w0) (aJ (aao w0) oO))))))))))) (ame w0 6)
noncomputable def agZ:List Fact:=[⟨[z13],[],6,bt,[],[],[],12⟩,⟨[z6],[],6,bt,[],[],[],14⟩,⟨[z4],[],6,bt,[],[],[],9⟩,⟨[z17],[],6,bt,[],[],[],12⟩,⟨[z2],[],6,bt,[],[],[],12⟩,⟨[z1],[],6,bt,[],[],[],13⟩,⟨[z9],[],6,bt,[],[],[],12⟩,⟨[z7],[],6,bt,[],[],[],13⟩,⟨[z0],[],6,bt,[],[],[],12⟩,⟨[z8],[],6,bt,[],[],[],13⟩,⟨[z14],[],6,bt,[],[],[],12⟩,⟨[z11],[],6,bt,[],[],[],13⟩,⟨[z5],[],6,bt,[],[],[],12⟩,⟨[z12],[],6,bt,[],[],[],12⟩,⟨[z22],[],6,bf,[],[],[],8⟩,⟨[z3],[],6,bt,[],[],[],12⟩,⟨[z19],[],6,bt,[],[],[],11⟩,⟨[z21],[],6,bt,[],[],[],16⟩,⟨[z18],[],6,bt,[],[],[],12⟩,⟨[z20],[],6,bt,[],[],[],12⟩,⟨[z23],[],6,bt,[],[],[],13⟩,⟨[z10],[],6,bf,[],[],[],8⟩,⟨[z15],[],6,bf,[],[],[],8⟩,⟨[z16],[],6,bf,[],[],[],8⟩,⟨[z26],[],6,bf,[],[],[],8⟩]
theorem dA2_0_ok:List.all agZ (dh T akp 6 1000 1000 180)=true:=by kernel_rfl
noncomputable def adp:Nat→Option FC:=ovl T 6 180 ZC (agZ) akp
set_option maxRecDepth 100000 in
theorem aio (w0:WM):dK Tryz.prog T w0 6 adp:=dA (akS w0) (aQ hT (akS w0) (aj7 w0 6) dA2_0_ok) (aj7 w0 6)
end Go.Proofs.YtbhfbliodeagmaaGreatDoor
