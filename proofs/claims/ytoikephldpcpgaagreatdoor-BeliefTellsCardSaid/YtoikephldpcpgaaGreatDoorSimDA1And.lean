/- Sim: facts of function 164 (slices.Insert[[]gameplayer/api.GroundRule,gameplayer/api.GroundRule]). Printed by a program (SimF3.lean). -/
import Derived.Test.YtoikephldpcpgaaGreatDoorSimDA0One
set_option linter.unusedVariables false
set_option linter.unusedSimpArgs false
set_option linter.all false
namespace Go.Proofs.YtoikephldpcpgaaGreatDoor
open Go Go.Sim
noncomputable def P5:List V:=[Zf,.aj,.aj,Zm,.aj,.aj]
noncomputable def Pj:List V:=(pu1 0 [Z1,.aj,.aj] P5)
noncomputable def TG:List V:=[Z0,Z2v]
noncomputable def NM:List (Nat×FO):=[(8,bk 3 [Z1,.aj,.aj])]
noncomputable def ad8:Fact:=fD 3 0 2 7 6 P5 TG NM Pj 9
theorem ZE (w0:World):bn Tryz.prog T w0 7 164 ad8:=aX hT (yA w0) ⟨_,Tryz.func164,by kernel_rfl,rfl⟩ (show gu 7 3 2 7 9 NM Pj=true by kernel_rfl) (show fQ T jA 7 1000 1000 164 3 0 2 7 P5 TG NM Pj 9=true by kernel_rfl) (fun d d'=>show fP T jA 7 1000 1000 164 3 0 2 7 P5 TG NM Pj 9 d d'=true by kernel_rfl)
noncomputable def PZ:List V:=[Z1,.aj,.aj,Zf,.aj,.aj,Zm,.aj,.aj,Z1t,Z40,.aj,Z1u,Z4o,.aj,Z1v,Z23,.aj,Z1o,Z37,.aj,Z1w,Z31,.aj]
noncomputable def Ph:List V:=(pu1 9 [Z1p,Z2w,.aj] PZ)
noncomputable def TF:List V:=[Z3,Z2v]
noncomputable def NK:List (Nat×FO):=[(8,bk 3 [Z1p,Z2w,.aj])]
noncomputable def ad7:Fact:=fD 3 0 8 7 24 PZ TF NK Ph 15
theorem ZC (w0:World):bn Tryz.prog T w0 7 164 ad7:=aX hT (yA w0) ⟨_,Tryz.func164,by kernel_rfl,rfl⟩ (show gu 7 3 8 7 15 NK Ph=true by kernel_rfl) (show fQ T jA 7 1000 1000 164 3 0 8 7 PZ TF NK Ph 15=true by kernel_rfl) (fun d d'=>show fP T jA 7 1000 1000 164 3 0 8 7 PZ TF NK Ph 15 d d'=true by kernel_rfl)
noncomputable def PY:List V:=[Z1,.aj,.aj,Zf,.aj,.aj,Zm,.aj,.aj,Z1p,Z40,.aj,Z1t,Z4o,.aj,Z1u,Z23,.aj,Z1v,Z37,.aj,Z1o,Z31,.aj,Z1w,Z2w,.aj]
noncomputable def Pg:List V:=(pu1 3 [Z3,Z38,.aj] PY)
noncomputable def TD:List V:=[Z1,Z2v]
noncomputable def NJ:List (Nat×FO):=[(8,bk 3 [Z3,Z38,.aj])]
noncomputable def ad6:Fact:=fD 3 0 9 7 27 PY TD NJ Pg 16
theorem ZB (w0:World):bn Tryz.prog T w0 7 164 ad6:=aX hT (yA w0) ⟨_,Tryz.func164,by kernel_rfl,rfl⟩ (show gu 7 3 9 7 16 NJ Pg=true by kernel_rfl) (show fQ T jA 7 1000 1000 164 3 0 9 7 PY TD NJ Pg 16=true by kernel_rfl) (fun d d'=>show fP T jA 7 1000 1000 164 3 0 9 7 PY TD NJ Pg 16 d d'=true by kernel_rfl)
noncomputable def PX:List V:=[Z1,.aj,.aj,Z3,Z40,.aj,Zf,.aj,.aj,Zm,.aj,.aj,Z1p,Z4o,.aj,Z1t,Z23,.aj,Z1u,Z37,.aj,Z1v,Z31,.aj,Z1o,Z2w,.aj,Z1w,Z38,.aj]
noncomputable def Pe:List V:=(pu1 6 [Z7,Z2x,.aj] PX)
noncomputable def TB:List V:=[Z2,Z2v]
noncomputable def NI:List (Nat×FO):=[(8,bk 3 [Z7,Z2x,.aj])]
noncomputable def ad5:Fact:=fD 3 0 10 7 30 PX TB NI Pe 17
theorem ZA (w0:World):bn Tryz.prog T w0 7 164 ad5:=aX hT (yA w0) ⟨_,Tryz.func164,by kernel_rfl,rfl⟩ (show gu 7 3 10 7 17 NI Pe=true by kernel_rfl) (show fQ T jA 7 1000 1000 164 3 0 10 7 PX TB NI Pe 17=true by kernel_rfl) (fun d d'=>show fP T jA 7 1000 1000 164 3 0 10 7 PX TB NI Pe 17 d d'=true by kernel_rfl)
noncomputable def PW:List V:=[Z1,.aj,.aj,Z3,Z40,.aj,Z7,Z4o,.aj,Zf,.aj,.aj,Zm,.aj,.aj,Z1p,Z23,.aj,Z1t,Z37,.aj,Z1u,Z31,.aj,Z1v,Z2w,.aj,Z1o,Z38,.aj,Z1w,Z2x,.aj]
noncomputable def O9:List V:=(pu1 9 [Z6,Z41,.aj] PW)
noncomputable def TA:List V:=[Z3,Z2v]
noncomputable def NH:List (Nat×FO):=[(8,bk 3 [Z6,Z41,.aj])]
noncomputable def ad4:Fact:=fD 3 0 11 7 33 PW TA NH O9 18
theorem YZ (w0:World):bn Tryz.prog T w0 7 164 ad4:=aX hT (yA w0) ⟨_,Tryz.func164,by kernel_rfl,rfl⟩ (show gu 7 3 11 7 18 NH O9=true by kernel_rfl) (show fQ T jA 7 1000 1000 164 3 0 11 7 PW TA NH O9 18=true by kernel_rfl) (fun d d'=>show fP T jA 7 1000 1000 164 3 0 11 7 PW TA NH O9 18 d d'=true by kernel_rfl)
noncomputable def PV:List V:=[Z1,.aj,.aj,Z3,Z40,.aj,Z7,Z4o,.aj,Z6,Z23,.aj,Zf,.aj,.aj,Zm,.aj,.aj,Z1p,Z37,.aj,Z1t,Z31,.aj,Z1u,Z2w,.aj,Z1v,Z38,.aj,Z1o,Z2x,.aj,Z1w,Z41,.aj]
noncomputable def O8:List V:=(pu1 12 [Zb,Z42,.aj] PV)
noncomputable def Tz:List V:=[Z7,Z2v]
noncomputable def NG:List (Nat×FO):=[(8,bk 3 [Zb,Z42,.aj])]
noncomputable def ad3:Fact:=fD 3 0 12 7 36 PV Tz NG O8 19
theorem YX (w0:World):bn Tryz.prog T w0 7 164 ad3:=aX hT (yA w0) ⟨_,Tryz.func164,by kernel_rfl,rfl⟩ (show gu 7 3 12 7 19 NG O8=true by kernel_rfl) (show fQ T jA 7 1000 1000 164 3 0 12 7 PV Tz NG O8 19=true by kernel_rfl) (fun d d'=>show fP T jA 7 1000 1000 164 3 0 12 7 PV Tz NG O8 19 d d'=true by kernel_rfl)
noncomputable def PU:List V:=[Z1,.aj,.aj,Z3,Z40,.aj,Z7,Z4o,.aj,Z6,Z23,.aj,Zb,Z37,.aj,Zf,.aj,.aj,Zm,.aj,.aj,Z1p,Z31,.aj,Z1t,Z2w,.aj,Z1u,Z38,.aj,Z1v,Z2x,.aj,Z1o,Z41,.aj,Z1w,Z42,.aj]
noncomputable def O7:List V:=(pu1 3 [Z2,Z4y,.aj] PU)
noncomputable def Tv:List V:=[Z1,Z2v]
noncomputable def ND:List (Nat×FO):=[(8,bk 3 [Z2,Z4y,.aj])]
noncomputable def adZ:Fact:=fD 3 0 13 7 39 PU Tv ND O7 20
theorem YW (w0:World):bn Tryz.prog T w0 7 164 adZ:=aX hT (yA w0) ⟨_,Tryz.func164,by kernel_rfl,rfl⟩ (show gu 7 3 13 7 20 ND O7=true by kernel_rfl) (show fQ T jA 7 1000 1000 164 3 0 13 7 PU Tv ND O7 20=true by kernel_rfl) (fun d d'=>show fP T jA 7 1000 1000 164 3 0 13 7 PU Tv ND O7 20 d d'=true by kernel_rfl)
noncomputable def PS:List V:=[Z1,.aj,.aj,Z2,(sn 9 1 2),.aj,Z3,Z4o,.aj,Z7,Z23,.aj,Z6,Z37,.aj,Zb,Z31,.aj,Zf,.aj,.aj,Zm,.aj,.aj,Z1p,Z2w,.aj,Z1t,Z38,.aj,Z1u,Z2x,.aj,Z1v,Z41,.aj,Z1o,Z42,.aj,Z1w,Z3k,.aj]
noncomputable def O6:List V:=(pu1 6 [Z2,Z2y,.aj] PS)
noncomputable def Tt:List V:=[Z2,Z2v]
noncomputable def NC:List (Nat×FO):=[(8,bk 3 [Z2,Z2y,.aj])]
noncomputable def adY:Fact:=fD 3 0 14 7 42 PS Tt NC O6 21
theorem YV (w0:World):bn Tryz.prog T w0 7 164 adY:=aX hT (yA w0) ⟨_,Tryz.func164,by kernel_rfl,rfl⟩ (show gu 7 3 14 7 21 NC O6=true by kernel_rfl) (show fQ T jA 7 1000 1000 164 3 0 14 7 PS Tt NC O6 21=true by kernel_rfl) (fun d d'=>show fP T jA 7 1000 1000 164 3 0 14 7 PS Tt NC O6 21 d d'=true by kernel_rfl)
noncomputable def PO:List V:=[Z1,.aj,.aj,Z2,(sn 9 1 2),.aj,Z2,Z6w,.aj,Z3,Z23,.aj,Z7,Z37,.aj,Z6,Z31,.aj,Zb,Z2w,.aj,Zf,.aj,.aj,Zm,.aj,.aj,Z1p,Z38,.aj,Z1t,Z2x,.aj,Z1u,Z41,.aj,Z1v,Z42,.aj,Z1o,Z3k,.aj,Z1w,Z5k,.aj]
noncomputable def O5:List V:=(pu1 0 [Z0,Z4p,.aj] PO)
noncomputable def Tq:List V:=[Z0,Z2v]
noncomputable def Nz:List (Nat×FO):=[(8,bk 3 [Z0,Z4p,.aj])]
noncomputable def adX:Fact:=fD 3 0 15 7 45 PO Tq Nz O5 22
theorem YU (w0:World):bn Tryz.prog T w0 7 164 adX:=aX hT (yA w0) ⟨_,Tryz.func164,by kernel_rfl,rfl⟩ (show gu 7 3 15 7 22 Nz O5=true by kernel_rfl) (show fQ T jA 7 1000 1000 164 3 0 15 7 PO Tq Nz O5 22=true by kernel_rfl) (fun d d'=>show fP T jA 7 1000 1000 164 3 0 15 7 PO Tq Nz O5 22 d d'=true by kernel_rfl)
noncomputable def PN:List V:=[Z0,Z40,.aj,Z1,.aj,.aj,Z2,Z6w,.aj,Z2,(sn 11 1 2),.aj,Z3,Z37,.aj,Z7,Z31,.aj,Z6,Z2w,.aj,Zb,Z38,.aj,Zf,.aj,.aj,Zm,.aj,.aj,Z1p,Z2x,.aj,Z1t,Z41,.aj,Z1u,Z42,.aj,Z1v,Z3k,.aj,Z1o,Z5k,.aj,Z1w,Z4p,.aj]
noncomputable def O4:List V:=(pu1 30 [Z2p,Z5l,.aj] PN)
noncomputable def Tn:List V:=[Zl,Z2v]
noncomputable def Ny:List (Nat×FO):=[(8,bk 3 [Z2p,Z5l,.aj])]
noncomputable def adW:Fact:=fD 3 0 16 7 48 PN Tn Ny O4 23
theorem YT (w0:World):bn Tryz.prog T w0 7 164 adW:=aX hT (yA w0) ⟨_,Tryz.func164,by kernel_rfl,rfl⟩ (show gu 7 3 16 7 23 Ny O4=true by kernel_rfl) (show fQ T jA 7 1000 1000 164 3 0 16 7 PN Tn Ny O4 23=true by kernel_rfl) (fun d d'=>show fP T jA 7 1000 1000 164 3 0 16 7 PN Tn Ny O4 23 d d'=true by kernel_rfl)
noncomputable def GY:List V:=[Z0,Z40,.aj,Z1,.aj,.aj,Z2,Z6w,.aj,Z2,(sn 11 1 2),.aj,Z3,Z37,.aj,Z7,Z31,.aj,Z6,Z2w,.aj,Zb,Z38,.aj,Zf,.aj,.aj,Zm,.aj,.aj,Z2p,Z2x,.aj,Z1p,Z41,.aj,Z1t,Z42,.aj,Z1u,Z3k,.aj,Z1v,Z5k,.aj,Z1o,Z4p,.aj,Z1w,Z5l,.aj]
noncomputable def Gs:List V:=(pu1 30 [Z39,Z6x,(sn 24 1 1)] GY)
noncomputable def Kw:List V:=[Zl,Z2v]
noncomputable def Fb:List (Nat×FO):=[(8,bk 3 [Z39,Z6x,(sn 24 1 1)])]
noncomputable def VQ:Fact:=fD 3 0 17 7 51 GY Kw Fb Gs 25
theorem VP (w0:World):bn Tryz.prog T w0 7 164 VQ:=aX hT (yA w0) ⟨_,Tryz.func164,by kernel_rfl,rfl⟩ (show gu 7 3 17 7 25 Fb Gs=true by kernel_rfl) (show fQ T jA 7 1000 1000 164 3 0 17 7 GY Kw Fb Gs 25=true by kernel_rfl) (fun d d'=>show fP T jA 7 1000 1000 164 3 0 17 7 GY Kw Fb Gs 25 d d'=true by kernel_rfl)
noncomputable def ahb:Nat→Option FC:=ovl T 7 164 Vh [ad8,ad7,ad6,ad5,ad4,ad3,adZ,adY,adX,adW,VQ] jA
set_option maxRecDepth 100000 in
theorem ahC (w0:World):dP Tryz.prog T w0 7 ahb:=cu (yA w0) (aJ (ZE w0) (aJ (ZC w0) (aJ (ZB w0) (aJ (ZA w0) (aJ (YZ w0) (aJ (YX w0) (aJ (YW w0) (aJ (YV w0) (aJ (YU w0) (aJ (YT w0) (aJ (VP w0) Em))))))))))) (ajc w0 7)
end Go.Proofs.YtoikephldpcpgaaGreatDoor
namespace Go.Proofs.YtoikephldpcpgaaGreatDoor
open Go Go.Sim
noncomputable def adV:List Fact:=[⟨[z14],[],7,bt,[],[],[],13⟩,⟨[z6],[],7,bt,[],[],[],15⟩,⟨[z4],[],7,bt,[],[],[],10⟩,⟨[z17],[],7,bt,[],[],[],13⟩,⟨[z2],[],7,bt,[],[],[],13⟩,⟨[z1],[],7,bt,[],[],[],14⟩,⟨[z9],[],7,bt,[],[],[],13⟩,⟨[z7],[],7,bt,[],[],[],14⟩,⟨[z0],[],7,bt,[],[],[],13⟩,⟨[z8],[],7,bt,[],[],[],14⟩,⟨[z13],[],7,bt,[],[],[],13⟩,⟨[z11],[],7,bt,[],[],[],14⟩,⟨[z5],[],7,bt,[],[],[],13⟩,⟨[z12],[],7,bt,[],[],[],13⟩,⟨[z22],[],7,bf,[],[],[],9⟩,⟨[z3],[],7,bt,[],[],[],13⟩,⟨[z19],[],7,bt,[],[],[],12⟩,⟨[z21],[],7,bt,[],[],[],17⟩,⟨[z18],[],7,bt,[],[],[],13⟩,⟨[z20],[],7,bt,[],[],[],13⟩,⟨[z23],[],7,bt,[],[],[],14⟩,⟨[z10],[],7,bf,[],[],[],9⟩,⟨[z15],[],7,bf,[],[],[],9⟩,⟨[z16],[],7,bf,[],[],[],9⟩,⟨[z26],[],7,bf,[],[],[],9⟩]
theorem dA2_0_ok:List.all adV (bP T ahb 7 1000 1000 144)=true:=by kernel_rfl
noncomputable def aaf:Nat→Option FC:=ovl T 7 144 Vj (adV) ahb
set_option maxRecDepth 100000 in
theorem afe (w0:World):dP Tryz.prog T w0 7 aaf:=cu (ahC w0) (aN hT (ahC w0) (agY w0 7) dA2_0_ok) (agY w0 7)
end Go.Proofs.YtoikephldpcpgaaGreatDoor
