/- Sim: facts of function 151 (slices.Insert[[]gameplayer/api.GroundRule,gameplayer/api.GroundRule]). Printed by a program (SimF3.lean). -/
import Derived.Test.YtepmohahglddnaaGreatDoorSimDA0One
set_option linter.unusedVariables false
set_option linter.unusedSimpArgs false
set_option linter.all false
namespace Go.Proofs.YtepmohahglddnaaGreatDoor
open Go Go.Sim
noncomputable def P9:List V:=[Zf,.aj,.aj,Zm,.aj,.aj]
noncomputable def Po:List V:=(pu1 0 [Z1,.aj,.aj] P9)
noncomputable def TD:List V:=[Z0,Z2v]
noncomputable def NQ:List (Nat×FO):=[(8,bk 3 [Z1,.aj,.aj])]
noncomputable def adY:Fact:=fD 3 0 2 7 6 P9 TD NQ Po 9
theorem ZE (w0:World):bg Tryz.prog T w0 7 151 adY:=aX hT (yw w0) ⟨_,Tryz.func151,by kernel_rfl,rfl⟩ (show gu 7 3 2 7 9 NQ Po=true by kernel_rfl) (show fQ T jy 7 1000 1000 151 3 0 2 7 P9 TD NQ Po 9=true by kernel_rfl) (fun d d'=>show fP T jy 7 1000 1000 151 3 0 2 7 P9 TD NQ Po 9 d d'=true by kernel_rfl)
noncomputable def P8:List V:=[Z1,.aj,.aj,Zf,.aj,.aj,Zm,.aj,.aj,Z1t,Z40,.aj,Z1u,Z4o,.aj,Z1v,Z23,.aj,Z1o,Z37,.aj,Z1w,Z31,.aj]
noncomputable def Pn:List V:=(pu1 9 [Z1p,Z2w,.aj] P8)
noncomputable def TB:List V:=[Z3,Z2v]
noncomputable def NP:List (Nat×FO):=[(8,bk 3 [Z1p,Z2w,.aj])]
noncomputable def adX:Fact:=fD 3 0 8 7 24 P8 TB NP Pn 15
theorem ZC (w0:World):bg Tryz.prog T w0 7 151 adX:=aX hT (yw w0) ⟨_,Tryz.func151,by kernel_rfl,rfl⟩ (show gu 7 3 8 7 15 NP Pn=true by kernel_rfl) (show fQ T jy 7 1000 1000 151 3 0 8 7 P8 TB NP Pn 15=true by kernel_rfl) (fun d d'=>show fP T jy 7 1000 1000 151 3 0 8 7 P8 TB NP Pn 15 d d'=true by kernel_rfl)
noncomputable def P7:List V:=[Z1,.aj,.aj,Zf,.aj,.aj,Zm,.aj,.aj,Z1p,Z40,.aj,Z1t,Z4o,.aj,Z1u,Z23,.aj,Z1v,Z37,.aj,Z1o,Z31,.aj,Z1w,Z2w,.aj]
noncomputable def Pm:List V:=(pu1 3 [Z3,Z38,.aj] P7)
noncomputable def TA:List V:=[Z1,Z2v]
noncomputable def NM:List (Nat×FO):=[(8,bk 3 [Z3,Z38,.aj])]
noncomputable def adW:Fact:=fD 3 0 9 7 27 P7 TA NM Pm 16
theorem ZB (w0:World):bg Tryz.prog T w0 7 151 adW:=aX hT (yw w0) ⟨_,Tryz.func151,by kernel_rfl,rfl⟩ (show gu 7 3 9 7 16 NM Pm=true by kernel_rfl) (show fQ T jy 7 1000 1000 151 3 0 9 7 P7 TA NM Pm 16=true by kernel_rfl) (fun d d'=>show fP T jy 7 1000 1000 151 3 0 9 7 P7 TA NM Pm 16 d d'=true by kernel_rfl)
noncomputable def P6:List V:=[Z1,.aj,.aj,Z3,Z40,.aj,Zf,.aj,.aj,Zm,.aj,.aj,Z1p,Z4o,.aj,Z1t,Z23,.aj,Z1u,Z37,.aj,Z1v,Z31,.aj,Z1o,Z2w,.aj,Z1w,Z38,.aj]
noncomputable def Pj:List V:=(pu1 6 [Z7,Z2x,.aj] P6)
noncomputable def Tz:List V:=[Z2,Z2v]
noncomputable def NK:List (Nat×FO):=[(8,bk 3 [Z7,Z2x,.aj])]
noncomputable def adV:Fact:=fD 3 0 10 7 30 P6 Tz NK Pj 17
theorem ZA (w0:World):bg Tryz.prog T w0 7 151 adV:=aX hT (yw w0) ⟨_,Tryz.func151,by kernel_rfl,rfl⟩ (show gu 7 3 10 7 17 NK Pj=true by kernel_rfl) (show fQ T jy 7 1000 1000 151 3 0 10 7 P6 Tz NK Pj 17=true by kernel_rfl) (fun d d'=>show fP T jy 7 1000 1000 151 3 0 10 7 P6 Tz NK Pj 17 d d'=true by kernel_rfl)
noncomputable def P5:List V:=[Z1,.aj,.aj,Z3,Z40,.aj,Z7,Z4o,.aj,Zf,.aj,.aj,Zm,.aj,.aj,Z1p,Z23,.aj,Z1t,Z37,.aj,Z1u,Z31,.aj,Z1v,Z2w,.aj,Z1o,Z38,.aj,Z1w,Z2x,.aj]
noncomputable def Ph:List V:=(pu1 9 [Z6,Z41,.aj] P5)
noncomputable def Tv:List V:=[Z3,Z2v]
noncomputable def NJ:List (Nat×FO):=[(8,bk 3 [Z6,Z41,.aj])]
noncomputable def adU:Fact:=fD 3 0 11 7 33 P5 Tv NJ Ph 18
theorem YZ (w0:World):bg Tryz.prog T w0 7 151 adU:=aX hT (yw w0) ⟨_,Tryz.func151,by kernel_rfl,rfl⟩ (show gu 7 3 11 7 18 NJ Ph=true by kernel_rfl) (show fQ T jy 7 1000 1000 151 3 0 11 7 P5 Tv NJ Ph 18=true by kernel_rfl) (fun d d'=>show fP T jy 7 1000 1000 151 3 0 11 7 P5 Tv NJ Ph 18 d d'=true by kernel_rfl)
noncomputable def PZ:List V:=[Z1,.aj,.aj,Z3,Z40,.aj,Z7,Z4o,.aj,Z6,Z23,.aj,Zf,.aj,.aj,Zm,.aj,.aj,Z1p,Z37,.aj,Z1t,Z31,.aj,Z1u,Z2w,.aj,Z1v,Z38,.aj,Z1o,Z2x,.aj,Z1w,Z41,.aj]
noncomputable def Pg:List V:=(pu1 12 [Zb,Z42,.aj] PZ)
noncomputable def Tt:List V:=[Z7,Z2v]
noncomputable def NI:List (Nat×FO):=[(8,bk 3 [Zb,Z42,.aj])]
noncomputable def adT:Fact:=fD 3 0 12 7 36 PZ Tt NI Pg 19
theorem YX (w0:World):bg Tryz.prog T w0 7 151 adT:=aX hT (yw w0) ⟨_,Tryz.func151,by kernel_rfl,rfl⟩ (show gu 7 3 12 7 19 NI Pg=true by kernel_rfl) (show fQ T jy 7 1000 1000 151 3 0 12 7 PZ Tt NI Pg 19=true by kernel_rfl) (fun d d'=>show fP T jy 7 1000 1000 151 3 0 12 7 PZ Tt NI Pg 19 d d'=true by kernel_rfl)
noncomputable def PY:List V:=[Z1,.aj,.aj,Z3,Z40,.aj,Z7,Z4o,.aj,Z6,Z23,.aj,Zb,Z37,.aj,Zf,.aj,.aj,Zm,.aj,.aj,Z1p,Z31,.aj,Z1t,Z2w,.aj,Z1u,Z38,.aj,Z1v,Z2x,.aj,Z1o,Z41,.aj,Z1w,Z42,.aj]
noncomputable def Pe:List V:=(pu1 3 [Z2,Z4y,.aj] PY)
noncomputable def Tq:List V:=[Z1,Z2v]
noncomputable def NH:List (Nat×FO):=[(8,bk 3 [Z2,Z4y,.aj])]
noncomputable def adS:Fact:=fD 3 0 13 7 39 PY Tq NH Pe 20
theorem YW (w0:World):bg Tryz.prog T w0 7 151 adS:=aX hT (yw w0) ⟨_,Tryz.func151,by kernel_rfl,rfl⟩ (show gu 7 3 13 7 20 NH Pe=true by kernel_rfl) (show fQ T jy 7 1000 1000 151 3 0 13 7 PY Tq NH Pe 20=true by kernel_rfl) (fun d d'=>show fP T jy 7 1000 1000 151 3 0 13 7 PY Tq NH Pe 20 d d'=true by kernel_rfl)
noncomputable def PX:List V:=[Z1,.aj,.aj,Z2,(sn 9 1 2),.aj,Z3,Z4o,.aj,Z7,Z23,.aj,Z6,Z37,.aj,Zb,Z31,.aj,Zf,.aj,.aj,Zm,.aj,.aj,Z1p,Z2w,.aj,Z1t,Z38,.aj,Z1u,Z2x,.aj,Z1v,Z41,.aj,Z1o,Z42,.aj,Z1w,Z3k,.aj]
noncomputable def O9:List V:=(pu1 6 [Z2,Z2y,.aj] PX)
noncomputable def Tn:List V:=[Z2,Z2v]
noncomputable def NG:List (Nat×FO):=[(8,bk 3 [Z2,Z2y,.aj])]
noncomputable def adR:Fact:=fD 3 0 14 7 42 PX Tn NG O9 21
theorem YV (w0:World):bg Tryz.prog T w0 7 151 adR:=aX hT (yw w0) ⟨_,Tryz.func151,by kernel_rfl,rfl⟩ (show gu 7 3 14 7 21 NG O9=true by kernel_rfl) (show fQ T jy 7 1000 1000 151 3 0 14 7 PX Tn NG O9 21=true by kernel_rfl) (fun d d'=>show fP T jy 7 1000 1000 151 3 0 14 7 PX Tn NG O9 21 d d'=true by kernel_rfl)
noncomputable def PW:List V:=[Z1,.aj,.aj,Z2,(sn 9 1 2),.aj,Z2,Z6w,.aj,Z3,Z23,.aj,Z7,Z37,.aj,Z6,Z31,.aj,Zb,Z2w,.aj,Zf,.aj,.aj,Zm,.aj,.aj,Z1p,Z38,.aj,Z1t,Z2x,.aj,Z1u,Z41,.aj,Z1v,Z42,.aj,Z1o,Z3k,.aj,Z1w,Z5k,.aj]
noncomputable def O8:List V:=(pu1 0 [Z0,Z4p,.aj] PW)
noncomputable def Tj:List V:=[Z0,Z2v]
noncomputable def ND:List (Nat×FO):=[(8,bk 3 [Z0,Z4p,.aj])]
noncomputable def adQ:Fact:=fD 3 0 15 7 45 PW Tj ND O8 22
theorem YU (w0:World):bg Tryz.prog T w0 7 151 adQ:=aX hT (yw w0) ⟨_,Tryz.func151,by kernel_rfl,rfl⟩ (show gu 7 3 15 7 22 ND O8=true by kernel_rfl) (show fQ T jy 7 1000 1000 151 3 0 15 7 PW Tj ND O8 22=true by kernel_rfl) (fun d d'=>show fP T jy 7 1000 1000 151 3 0 15 7 PW Tj ND O8 22 d d'=true by kernel_rfl)
noncomputable def PV:List V:=[Z0,Z40,.aj,Z1,.aj,.aj,Z2,Z6w,.aj,Z2,(sn 11 1 2),.aj,Z3,Z37,.aj,Z7,Z31,.aj,Z6,Z2w,.aj,Zb,Z38,.aj,Zf,.aj,.aj,Zm,.aj,.aj,Z1p,Z2x,.aj,Z1t,Z41,.aj,Z1u,Z42,.aj,Z1v,Z3k,.aj,Z1o,Z5k,.aj,Z1w,Z4p,.aj]
noncomputable def O7:List V:=(pu1 30 [Z2p,Z5l,.aj] PV)
noncomputable def Ti:List V:=[Zl,Z2v]
noncomputable def NC:List (Nat×FO):=[(8,bk 3 [Z2p,Z5l,.aj])]
noncomputable def adP:Fact:=fD 3 0 16 7 48 PV Ti NC O7 23
theorem YT (w0:World):bg Tryz.prog T w0 7 151 adP:=aX hT (yw w0) ⟨_,Tryz.func151,by kernel_rfl,rfl⟩ (show gu 7 3 16 7 23 NC O7=true by kernel_rfl) (show fQ T jy 7 1000 1000 151 3 0 16 7 PV Ti NC O7 23=true by kernel_rfl) (fun d d'=>show fP T jy 7 1000 1000 151 3 0 16 7 PV Ti NC O7 23 d d'=true by kernel_rfl)
noncomputable def GY:List V:=[Z0,Z40,.aj,Z1,.aj,.aj,Z2,Z6w,.aj,Z2,(sn 11 1 2),.aj,Z3,Z37,.aj,Z7,Z31,.aj,Z6,Z2w,.aj,Zb,Z38,.aj,Zf,.aj,.aj,Zm,.aj,.aj,Z2p,Z2x,.aj,Z1p,Z41,.aj,Z1t,Z42,.aj,Z1u,Z3k,.aj,Z1v,Z5k,.aj,Z1o,Z4p,.aj,Z1w,Z5l,.aj]
noncomputable def Gs:List V:=(pu1 30 [Z39,Z6x,(sn 24 1 1)] GY)
noncomputable def Kw:List V:=[Zl,Z2v]
noncomputable def Fb:List (Nat×FO):=[(8,bk 3 [Z39,Z6x,(sn 24 1 1)])]
noncomputable def VN:Fact:=fD 3 0 17 7 51 GY Kw Fb Gs 25
theorem VL (w0:World):bg Tryz.prog T w0 7 151 VN:=aX hT (yw w0) ⟨_,Tryz.func151,by kernel_rfl,rfl⟩ (show gu 7 3 17 7 25 Fb Gs=true by kernel_rfl) (show fQ T jy 7 1000 1000 151 3 0 17 7 GY Kw Fb Gs 25=true by kernel_rfl) (fun d d'=>show fP T jy 7 1000 1000 151 3 0 17 7 GY Kw Fb Gs 25 d d'=true by kernel_rfl)
noncomputable def ag6:Nat→Option FC:=ovl T 7 151 Vj [adY,adX,adW,adV,adU,adT,adS,adR,adQ,adP,VN] jy
set_option maxRecDepth 100000 in
theorem ahu (w0:World):dN Tryz.prog T w0 7 ag6:=bZ (yw w0) (aJ (ZE w0) (aJ (ZC w0) (aJ (ZB w0) (aJ (ZA w0) (aJ (YZ w0) (aJ (YX w0) (aJ (YW w0) (aJ (YV w0) (aJ (YU w0) (aJ (YT w0) (aJ (VL w0) Ef))))))))))) (aje w0 7)
end Go.Proofs.YtepmohahglddnaaGreatDoor
namespace Go.Proofs.YtepmohahglddnaaGreatDoor
open Go Go.Sim
noncomputable def adO:List Fact:=[⟨[z14],[],7,bt,[],[],[],13⟩,⟨[z6],[],7,bt,[],[],[],15⟩,⟨[z4],[],7,bt,[],[],[],10⟩,⟨[z17],[],7,bt,[],[],[],13⟩,⟨[z2],[],7,bt,[],[],[],13⟩,⟨[z1],[],7,bt,[],[],[],14⟩,⟨[z9],[],7,bt,[],[],[],13⟩,⟨[z7],[],7,bt,[],[],[],14⟩,⟨[z0],[],7,bt,[],[],[],13⟩,⟨[z8],[],7,bt,[],[],[],14⟩,⟨[z13],[],7,bt,[],[],[],13⟩,⟨[z11],[],7,bt,[],[],[],14⟩,⟨[z5],[],7,bt,[],[],[],13⟩,⟨[z12],[],7,bt,[],[],[],13⟩,⟨[z22],[],7,bf,[],[],[],9⟩,⟨[z3],[],7,bt,[],[],[],13⟩,⟨[z19],[],7,bt,[],[],[],12⟩,⟨[z21],[],7,bt,[],[],[],17⟩,⟨[z18],[],7,bt,[],[],[],13⟩,⟨[z20],[],7,bt,[],[],[],13⟩,⟨[z23],[],7,bt,[],[],[],14⟩,⟨[z10],[],7,bf,[],[],[],9⟩,⟨[z15],[],7,bf,[],[],[],9⟩,⟨[z16],[],7,bf,[],[],[],9⟩,⟨[z26],[],7,bf,[],[],[],9⟩]
theorem dA2_0_ok:List.all adO (bM T ag6 7 1000 1000 131)=true:=by kernel_rfl
noncomputable def aag:Nat→Option FC:=ovl T 7 131 Vk (adO) ag6
set_option maxRecDepth 100000 in
theorem ae9 (w0:World):dN Tryz.prog T w0 7 aag:=bZ (ahu w0) (aN hT (ahu w0) (agX w0 7) dA2_0_ok) (agX w0 7)
end Go.Proofs.YtepmohahglddnaaGreatDoor
