/- Sim: facts of function 203 (slices.Insert[[]gameplayer/api.GroundRule,gameplayer/api.GroundRule]). Printed by a program (SimF3.lean). -/
import Derived.Test.YtpmapognbdiahaaGreatDoorSimDA0One
set_option linter.all false
namespace Go.Proofs.YtpmapognbdiahaaGreatDoor
open Go Go.Sim
noncomputable def O7:List V:=[Zf,.aj,.aj,Zo,.aj,.aj]
noncomputable def OB:List V:=(pu1 0 [Z1,.aj,.aj] O7)
noncomputable def SH:List V:=[Z0,Z33]
noncomputable def MX:List (Nat×FO):=[(7,bk 3 [Z1,.aj,.aj])]
noncomputable def adD:Fact:=fU 3 0 2 6 6 O7 SH MX OB 8
theorem YR (w0:WM):bD Tryz.prog T w0 6 203 adD:=aZ hT (xK w0) ⟨_,Tryz.func203,by kernel_rfl,rfl⟩ (show gV 6 3 2 6 8 MX OB=true by kernel_rfl) (show gG T jL 6 1000 1000 203 3 0 2 6 O7 SH MX OB 8=true by kernel_rfl) (fun d d'=>show gB T jL 6 1000 1000 203 3 0 2 6 O7 SH MX OB 8 d d'=true by kernel_rfl)
noncomputable def O6:List V:=[Z1,.aj,.aj,Zf,.aj,.aj,Zo,.aj,.aj,Z1q,Z3y,.aj,Z1r,Z4o,.aj,Z1s,Z22,.aj,Z1m,Z34,.aj,Z1t,Z35,.aj]
noncomputable def OA:List V:=(pu1 9 [Z1n,Z2x,.aj] O6)
noncomputable def SG:List V:=[Z5,Z33]
noncomputable def MW:List (Nat×FO):=[(7,bk 3 [Z1n,Z2x,.aj])]
noncomputable def adC:Fact:=fU 3 0 8 6 24 O6 SG MW OA 14
theorem YQ (w0:WM):bD Tryz.prog T w0 6 203 adC:=aZ hT (xK w0) ⟨_,Tryz.func203,by kernel_rfl,rfl⟩ (show gV 6 3 8 6 14 MW OA=true by kernel_rfl) (show gG T jL 6 1000 1000 203 3 0 8 6 O6 SG MW OA 14=true by kernel_rfl) (fun d d'=>show gB T jL 6 1000 1000 203 3 0 8 6 O6 SG MW OA 14 d d'=true by kernel_rfl)
noncomputable def O5:List V:=[Z1,.aj,.aj,Zf,.aj,.aj,Zo,.aj,.aj,Z1n,Z3y,.aj,Z1q,Z4o,.aj,Z1r,Z22,.aj,Z1s,Z34,.aj,Z1m,Z35,.aj,Z1t,Z2x,.aj]
noncomputable def Oz:List V:=(pu1 3 [Z5,Z36,.aj] O5)
noncomputable def SE:List V:=[Z1,Z33]
noncomputable def MV:List (Nat×FO):=[(7,bk 3 [Z5,Z36,.aj])]
noncomputable def adB:Fact:=fU 3 0 9 6 27 O5 SE MV Oz 15
theorem YP (w0:WM):bD Tryz.prog T w0 6 203 adB:=aZ hT (xK w0) ⟨_,Tryz.func203,by kernel_rfl,rfl⟩ (show gV 6 3 9 6 15 MV Oz=true by kernel_rfl) (show gG T jL 6 1000 1000 203 3 0 9 6 O5 SE MV Oz 15=true by kernel_rfl) (fun d d'=>show gB T jL 6 1000 1000 203 3 0 9 6 O5 SE MV Oz 15 d d'=true by kernel_rfl)
noncomputable def O4:List V:=[Z1,.aj,.aj,Z5,Z3y,.aj,Zf,.aj,.aj,Zo,.aj,.aj,Z1n,Z4o,.aj,Z1q,Z22,.aj,Z1r,Z34,.aj,Z1s,Z35,.aj,Z1m,Z2x,.aj,Z1t,Z36,.aj]
noncomputable def Oy:List V:=(pu1 6 [Z8,Z2v,.aj] O4)
noncomputable def SC:List V:=[Z2,Z33]
noncomputable def MS:List (Nat×FO):=[(7,bk 3 [Z8,Z2v,.aj])]
noncomputable def adA:Fact:=fU 3 0 10 6 30 O4 SC MS Oy 16
theorem YO (w0:WM):bD Tryz.prog T w0 6 203 adA:=aZ hT (xK w0) ⟨_,Tryz.func203,by kernel_rfl,rfl⟩ (show gV 6 3 10 6 16 MS Oy=true by kernel_rfl) (show gG T jL 6 1000 1000 203 3 0 10 6 O4 SC MS Oy 16=true by kernel_rfl) (fun d d'=>show gB T jL 6 1000 1000 203 3 0 10 6 O4 SC MS Oy 16 d d'=true by kernel_rfl)
noncomputable def O1:List V:=[Z1,.aj,.aj,Z5,Z3y,.aj,Z8,Z4o,.aj,Zf,.aj,.aj,Zo,.aj,.aj,Z1n,Z22,.aj,Z1q,Z34,.aj,Z1r,Z35,.aj,Z1s,Z2x,.aj,Z1m,Z36,.aj,Z1t,Z2v,.aj]
noncomputable def Ox:List V:=(pu1 9 [Z6,Z3z,.aj] O1)
noncomputable def SB:List V:=[Z5,Z33]
noncomputable def MR:List (Nat×FO):=[(7,bk 3 [Z6,Z3z,.aj])]
noncomputable def adz:Fact:=fU 3 0 11 6 33 O1 SB MR Ox 17
theorem YN (w0:WM):bD Tryz.prog T w0 6 203 adz:=aZ hT (xK w0) ⟨_,Tryz.func203,by kernel_rfl,rfl⟩ (show gV 6 3 11 6 17 MR Ox=true by kernel_rfl) (show gG T jL 6 1000 1000 203 3 0 11 6 O1 SB MR Ox 17=true by kernel_rfl) (fun d d'=>show gB T jL 6 1000 1000 203 3 0 11 6 O1 SB MR Ox 17 d d'=true by kernel_rfl)
noncomputable def OZ:List V:=[Z1,.aj,.aj,Z5,Z3y,.aj,Z8,Z4o,.aj,Z6,Z22,.aj,Zf,.aj,.aj,Zo,.aj,.aj,Z1n,Z34,.aj,Z1q,Z35,.aj,Z1r,Z2x,.aj,Z1s,Z36,.aj,Z1m,Z2v,.aj,Z1t,Z3z,.aj]
noncomputable def Ov:List V:=(pu1 12 [Zb,Z4h,.aj] OZ)
noncomputable def SA:List V:=[Z8,Z33]
noncomputable def MQ:List (Nat×FO):=[(7,bk 3 [Zb,Z4h,.aj])]
noncomputable def ady:Fact:=fU 3 0 12 6 36 OZ SA MQ Ov 18
theorem YM (w0:WM):bD Tryz.prog T w0 6 203 ady:=aZ hT (xK w0) ⟨_,Tryz.func203,by kernel_rfl,rfl⟩ (show gV 6 3 12 6 18 MQ Ov=true by kernel_rfl) (show gG T jL 6 1000 1000 203 3 0 12 6 OZ SA MQ Ov 18=true by kernel_rfl) (fun d d'=>show gB T jL 6 1000 1000 203 3 0 12 6 OZ SA MQ Ov 18 d d'=true by kernel_rfl)
noncomputable def OY:List V:=[Z1,.aj,.aj,Z5,Z3y,.aj,Z8,Z4o,.aj,Z6,Z22,.aj,Zb,Z34,.aj,Zf,.aj,.aj,Zo,.aj,.aj,Z1n,Z35,.aj,Z1q,Z2x,.aj,Z1r,Z36,.aj,Z1s,Z2v,.aj,Z1m,Z3z,.aj,Z1t,Z4h,.aj]
noncomputable def Ou:List V:=(pu1 3 [Z2,Z5h,.aj] OY)
noncomputable def Sz:List V:=[Z1,Z33]
noncomputable def MP:List (Nat×FO):=[(7,bk 3 [Z2,Z5h,.aj])]
noncomputable def adx:Fact:=fU 3 0 13 6 39 OY Sz MP Ou 19
theorem YL (w0:WM):bD Tryz.prog T w0 6 203 adx:=aZ hT (xK w0) ⟨_,Tryz.func203,by kernel_rfl,rfl⟩ (show gV 6 3 13 6 19 MP Ou=true by kernel_rfl) (show gG T jL 6 1000 1000 203 3 0 13 6 OY Sz MP Ou 19=true by kernel_rfl) (fun d d'=>show gB T jL 6 1000 1000 203 3 0 13 6 OY Sz MP Ou 19 d d'=true by kernel_rfl)
noncomputable def OX:List V:=[Z1,.aj,.aj,Z2,(sn 8 1 2),.aj,Z5,Z4o,.aj,Z8,Z22,.aj,Z6,Z34,.aj,Zb,Z35,.aj,Zf,.aj,.aj,Zo,.aj,.aj,Z1n,Z2x,.aj,Z1q,Z36,.aj,Z1r,Z2v,.aj,Z1s,Z3z,.aj,Z1m,Z4h,.aj,Z1t,Z40,.aj]
noncomputable def Ot:List V:=(pu1 6 [Z2,Z37,.aj] OX)
noncomputable def Sv:List V:=[Z2,Z33]
noncomputable def MO:List (Nat×FO):=[(7,bk 3 [Z2,Z37,.aj])]
noncomputable def adw:Fact:=fU 3 0 14 6 42 OX Sv MO Ot 20
theorem YK (w0:WM):bD Tryz.prog T w0 6 203 adw:=aZ hT (xK w0) ⟨_,Tryz.func203,by kernel_rfl,rfl⟩ (show gV 6 3 14 6 20 MO Ot=true by kernel_rfl) (show gG T jL 6 1000 1000 203 3 0 14 6 OX Sv MO Ot 20=true by kernel_rfl) (fun d d'=>show gB T jL 6 1000 1000 203 3 0 14 6 OX Sv MO Ot 20 d d'=true by kernel_rfl)
noncomputable def OW:List V:=[Z1,.aj,.aj,Z2,(sn 8 1 2),.aj,Z2,Z6u,.aj,Z5,Z22,.aj,Z8,Z34,.aj,Z6,Z35,.aj,Zb,Z2x,.aj,Zf,.aj,.aj,Zo,.aj,.aj,Z1n,Z36,.aj,Z1q,Z2v,.aj,Z1r,Z3z,.aj,Z1s,Z4h,.aj,Z1m,Z40,.aj,Z1t,Z5i,.aj]
noncomputable def Oq:List V:=(pu1 0 [Z0,Z4p,.aj] OW)
noncomputable def Sr:List V:=[Z0,Z33]
noncomputable def MN:List (Nat×FO):=[(7,bk 3 [Z0,Z4p,.aj])]
noncomputable def adv:Fact:=fU 3 0 15 6 45 OW Sr MN Oq 21
theorem YJ (w0:WM):bD Tryz.prog T w0 6 203 adv:=aZ hT (xK w0) ⟨_,Tryz.func203,by kernel_rfl,rfl⟩ (show gV 6 3 15 6 21 MN Oq=true by kernel_rfl) (show gG T jL 6 1000 1000 203 3 0 15 6 OW Sr MN Oq 21=true by kernel_rfl) (fun d d'=>show gB T jL 6 1000 1000 203 3 0 15 6 OW Sr MN Oq 21 d d'=true by kernel_rfl)
noncomputable def OU:List V:=[Z0,Z3y,.aj,Z1,.aj,.aj,Z2,Z6u,.aj,Z2,(sn 10 1 2),.aj,Z5,Z34,.aj,Z8,Z35,.aj,Z6,Z2x,.aj,Zb,Z36,.aj,Zf,.aj,.aj,Zo,.aj,.aj,Z1n,Z2v,.aj,Z1q,Z3z,.aj,Z1r,Z4h,.aj,Z1s,Z40,.aj,Z1m,Z5i,.aj,Z1t,Z4p,.aj]
noncomputable def Oo:List V:=(pu1 30 [Z2p,Z6v,.aj] OU)
noncomputable def Sm:List V:=[Zn,Z33]
noncomputable def ML:List (Nat×FO):=[(7,bk 3 [Z2p,Z6v,.aj])]
noncomputable def adu:Fact:=fU 3 0 16 6 48 OU Sm ML Oo 22
theorem YI (w0:WM):bD Tryz.prog T w0 6 203 adu:=aZ hT (xK w0) ⟨_,Tryz.func203,by kernel_rfl,rfl⟩ (show gV 6 3 16 6 22 ML Oo=true by kernel_rfl) (show gG T jL 6 1000 1000 203 3 0 16 6 OU Sm ML Oo 22=true by kernel_rfl) (fun d d'=>show gB T jL 6 1000 1000 203 3 0 16 6 OU Sm ML Oo 22 d d'=true by kernel_rfl)
noncomputable def FZ:List V:=[Z0,Z3y,.aj,Z1,.aj,.aj,Z2,Z6u,.aj,Z2,(sn 10 1 2),.aj,Z5,Z34,.aj,Z8,Z35,.aj,Z6,Z2x,.aj,Zb,Z36,.aj,Zf,.aj,.aj,Zo,.aj,.aj,Z2p,Z2v,.aj,Z1n,Z3z,.aj,Z1q,Z4h,.aj,Z1r,Z40,.aj,Z1s,Z5i,.aj,Z1m,Z4p,.aj,Z1t,Z6v,.aj]
noncomputable def Fv:List V:=(pu1 30 [Z38,(sn 22 1 1),(sn 23 1 1)] FZ)
noncomputable def JI:List V:=[Zn,Z33]
noncomputable def EI:List (Nat×FO):=[(7,bk 3 [Z38,(sn 22 1 1),(sn 23 1 1)])]
noncomputable def Vs:Fact:=fU 3 0 17 6 51 FZ JI EI Fv 24
theorem Vr (w0:WM):bD Tryz.prog T w0 6 203 Vs:=aZ hT (xK w0) ⟨_,Tryz.func203,by kernel_rfl,rfl⟩ (show gV 6 3 17 6 24 EI Fv=true by kernel_rfl) (show gG T jL 6 1000 1000 203 3 0 17 6 FZ JI EI Fv 24=true by kernel_rfl) (fun d d'=>show gB T jL 6 1000 1000 203 3 0 17 6 FZ JI EI Fv 24 d d'=true by kernel_rfl)
noncomputable def agR:Nat→Option FC:=ovl T 6 203 UW [adD,adC,adB,adA,adz,ady,adx,adw,adv,adu,Vs] jL
set_option maxRecDepth 100000 in
theorem ahu (w0:WM):dY Tryz.prog T w0 6 agR:=dD (xK w0) (aK (YR w0) (aK (YQ w0) (aK (YP w0) (aK (YO w0) (aK (YN w0) (aK (YM w0) (aK (YL w0) (aK (YK w0) (aK (YJ w0) (aK (YI w0) (aK (Vr w0) qm))))))))))) (aiX w0 6)
noncomputable def adt:List Fact:=[⟨[z13],[],6,bt,[],[],[],12⟩,⟨[z6],[],6,bt,[],[],[],14⟩,⟨[z4],[],6,bt,[],[],[],9⟩,⟨[z17],[],6,bt,[],[],[],12⟩,⟨[z2],[],6,bt,[],[],[],12⟩,⟨[z1],[],6,bt,[],[],[],13⟩,⟨[z9],[],6,bt,[],[],[],12⟩,⟨[z7],[],6,bt,[],[],[],13⟩,⟨[z0],[],6,bt,[],[],[],12⟩,⟨[z8],[],6,bt,[],[],[],13⟩,⟨[z14],[],6,bt,[],[],[],12⟩,⟨[z11],[],6,bt,[],[],[],13⟩,⟨[z5],[],6,bt,[],[],[],12⟩,⟨[z12],[],6,bt,[],[],[],12⟩,⟨[z22],[],6,bf,[],[],[],8⟩,⟨[z3],[],6,bt,[],[],[],12⟩,⟨[z19],[],6,bt,[],[],[],11⟩,⟨[z21],[],6,bt,[],[],[],16⟩,⟨[z18],[],6,bt,[],[],[],12⟩,⟨[z20],[],6,bt,[],[],[],12⟩,⟨[z23],[],6,bt,[],[],[],13⟩,⟨[z10],[],6,bf,[],[],[],8⟩,⟨[z15],[],6,bf,[],[],[],8⟩,⟨[z16],[],6,bf,[],[],[],8⟩,⟨[z26],[],6,bf,[],[],[],8⟩]
theorem dA2_0_ok:List.all adt (bZ T agR 6 1000 1000 172)=true:=by kernel_rfl
noncomputable def ZN:Nat→Option FC:=ovl T 6 172 UY (adt) agR
set_option maxRecDepth 100000 in
theorem aeZ (w0:WM):dY Tryz.prog T w0 6 ZN:=dD (ahu w0) (aP hT (ahu w0) (agD w0 6) dA2_0_ok) (agD w0 6)
end Go.Proofs.YtpmapognbdiahaaGreatDoor
