/- Sim: facts of function 172 (slices.Insert[[]gameplayer/api.GroundRule,gameplayer/api.GroundRule]). Printed by a program (SimF3.lean). -/
import Derived.Test.YtdbkblcekmogkaaGreatDoorSimDA0One
set_option linter.unusedVariables false
set_option linter.unusedSimpArgs false
set_option linter.all false
namespace Go.Proofs.YtdbkblcekmogkaaGreatDoor
open Go Go.Sim
noncomputable def Pn:List V:=[Zc,.aj,.aj,Zf,.aj,.aj]
noncomputable def OL:List V:=(pu1 0 [Z1,.aj,.aj] Pn)
noncomputable def SB:List V:=[Z0,Z3c]
noncomputable def Nh:List (Nat×FO):=[(6,bk 3 [Z1,.aj,.aj])]
noncomputable def adJ:Fact:=fA 3 0 2 5 6 Pn SB Nh OL 7
theorem YL (w0:World):aZ Tryz.prog T w0 5 172 adJ:=aW hT (xP w0) ⟨_,Tryz.func172,by kernel_rfl,rfl⟩ (show fZ 5 3 2 5 7 Nh OL=true by kernel_rfl) (show fG T jE 5 1000 1000 172 3 0 2 5 Pn SB Nh OL 7=true by kernel_rfl) (fun d d'=>show fF T jE 5 1000 1000 172 3 0 2 5 Pn SB Nh OL 7 d d'=true by kernel_rfl)
noncomputable def Pm:List V:=[Z1,.aj,.aj,Zc,.aj,.aj,Zf,.aj,.aj,Z21,Z3z,.aj,Z22,Z4x,.aj,Z23,Z1g,.aj,Z1v,Z3h,.aj,Z24,Z3d,.aj]
noncomputable def OJ:List V:=(pu1 9 [Z1w,Z2j,.aj] Pm)
noncomputable def SA:List V:=[Z5,Z3c]
noncomputable def Nc:List (Nat×FO):=[(6,bk 3 [Z1w,Z2j,.aj])]
noncomputable def adI:Fact:=fA 3 0 8 5 24 Pm SA Nc OJ 13
theorem YK (w0:World):aZ Tryz.prog T w0 5 172 adI:=aW hT (xP w0) ⟨_,Tryz.func172,by kernel_rfl,rfl⟩ (show fZ 5 3 8 5 13 Nc OJ=true by kernel_rfl) (show fG T jE 5 1000 1000 172 3 0 8 5 Pm SA Nc OJ 13=true by kernel_rfl) (fun d d'=>show fF T jE 5 1000 1000 172 3 0 8 5 Pm SA Nc OJ 13 d d'=true by kernel_rfl)
noncomputable def Pj:List V:=[Z1,.aj,.aj,Zc,.aj,.aj,Zf,.aj,.aj,Z1w,Z3z,.aj,Z21,Z4x,.aj,Z22,Z1g,.aj,Z23,Z3h,.aj,Z1v,Z3d,.aj,Z24,Z2j,.aj]
noncomputable def OI:List V:=(pu1 3 [Z5,Z3n,.aj] Pj)
noncomputable def Sz:List V:=[Z1,Z3c]
noncomputable def Nb:List (Nat×FO):=[(6,bk 3 [Z5,Z3n,.aj])]
noncomputable def adH:Fact:=fA 3 0 9 5 27 Pj Sz Nb OI 14
theorem YJ (w0:World):aZ Tryz.prog T w0 5 172 adH:=aW hT (xP w0) ⟨_,Tryz.func172,by kernel_rfl,rfl⟩ (show fZ 5 3 9 5 14 Nb OI=true by kernel_rfl) (show fG T jE 5 1000 1000 172 3 0 9 5 Pj Sz Nb OI 14=true by kernel_rfl) (fun d d'=>show fF T jE 5 1000 1000 172 3 0 9 5 Pj Sz Nb OI 14 d d'=true by kernel_rfl)
noncomputable def Ph:List V:=[Z1,.aj,.aj,Z5,Z3z,.aj,Zc,.aj,.aj,Zf,.aj,.aj,Z1w,Z4x,.aj,Z21,Z1g,.aj,Z22,Z3h,.aj,Z23,Z3d,.aj,Z1v,Z2j,.aj,Z24,Z3n,.aj]
noncomputable def OH:List V:=(pu1 6 [Z3,Z35,.aj] Ph)
noncomputable def Sv:List V:=[Z2,Z3c]
noncomputable def Na:List (Nat×FO):=[(6,bk 3 [Z3,Z35,.aj])]
noncomputable def adG:Fact:=fA 3 0 10 5 30 Ph Sv Na OH 15
theorem YI (w0:World):aZ Tryz.prog T w0 5 172 adG:=aW hT (xP w0) ⟨_,Tryz.func172,by kernel_rfl,rfl⟩ (show fZ 5 3 10 5 15 Na OH=true by kernel_rfl) (show fG T jE 5 1000 1000 172 3 0 10 5 Ph Sv Na OH 15=true by kernel_rfl) (fun d d'=>show fF T jE 5 1000 1000 172 3 0 10 5 Ph Sv Na OH 15 d d'=true by kernel_rfl)
noncomputable def Pg:List V:=[Z1,.aj,.aj,Z5,Z3z,.aj,Z3,Z4x,.aj,Zc,.aj,.aj,Zf,.aj,.aj,Z1w,Z1g,.aj,Z21,Z3h,.aj,Z22,Z3d,.aj,Z23,Z2j,.aj,Z1v,Z3n,.aj,Z24,Z35,.aj]
noncomputable def OG:List V:=(pu1 9 [Z4,Z4a,.aj] Pg)
noncomputable def Sr:List V:=[Z5,Z3c]
noncomputable def MZ:List (Nat×FO):=[(6,bk 3 [Z4,Z4a,.aj])]
noncomputable def adF:Fact:=fA 3 0 11 5 33 Pg Sr MZ OG 16
theorem YH (w0:World):aZ Tryz.prog T w0 5 172 adF:=aW hT (xP w0) ⟨_,Tryz.func172,by kernel_rfl,rfl⟩ (show fZ 5 3 11 5 16 MZ OG=true by kernel_rfl) (show fG T jE 5 1000 1000 172 3 0 11 5 Pg Sr MZ OG 16=true by kernel_rfl) (fun d d'=>show fF T jE 5 1000 1000 172 3 0 11 5 Pg Sr MZ OG 16 d d'=true by kernel_rfl)
noncomputable def Pe:List V:=[Z1,.aj,.aj,Z5,Z3z,.aj,Z3,Z4x,.aj,Z4,Z1g,.aj,Zc,.aj,.aj,Zf,.aj,.aj,Z1w,Z3h,.aj,Z21,Z3d,.aj,Z22,Z2j,.aj,Z23,Z3n,.aj,Z1v,Z35,.aj,Z24,Z4a,.aj]
noncomputable def OE:List V:=(pu1 12 [Z9,Z4r,.aj] Pe)
noncomputable def Sm:List V:=[Z3,Z3c]
noncomputable def MX:List (Nat×FO):=[(6,bk 3 [Z9,Z4r,.aj])]
noncomputable def adE:Fact:=fA 3 0 12 5 36 Pe Sm MX OE 17
theorem YG (w0:World):aZ Tryz.prog T w0 5 172 adE:=aW hT (xP w0) ⟨_,Tryz.func172,by kernel_rfl,rfl⟩ (show fZ 5 3 12 5 17 MX OE=true by kernel_rfl) (show fG T jE 5 1000 1000 172 3 0 12 5 Pe Sm MX OE 17=true by kernel_rfl) (fun d d'=>show fF T jE 5 1000 1000 172 3 0 12 5 Pe Sm MX OE 17 d d'=true by kernel_rfl)
noncomputable def O9:List V:=[Z1,.aj,.aj,Z5,Z3z,.aj,Z3,Z4x,.aj,Z4,Z1g,.aj,Z9,Z3h,.aj,Zc,.aj,.aj,Zf,.aj,.aj,Z1w,Z3d,.aj,Z21,Z2j,.aj,Z22,Z3n,.aj,Z23,Z35,.aj,Z1v,Z4a,.aj,Z24,Z4r,.aj]
noncomputable def OD:List V:=(pu1 3 [Z2,Z25,.aj] O9)
noncomputable def Sl:List V:=[Z1,Z3c]
noncomputable def MW:List (Nat×FO):=[(6,bk 3 [Z2,Z25,.aj])]
noncomputable def adD:Fact:=fA 3 0 13 5 39 O9 Sl MW OD 18
theorem YF (w0:World):aZ Tryz.prog T w0 5 172 adD:=aW hT (xP w0) ⟨_,Tryz.func172,by kernel_rfl,rfl⟩ (show fZ 5 3 13 5 18 MW OD=true by kernel_rfl) (show fG T jE 5 1000 1000 172 3 0 13 5 O9 Sl MW OD 18=true by kernel_rfl) (fun d d'=>show fF T jE 5 1000 1000 172 3 0 13 5 O9 Sl MW OD 18 d d'=true by kernel_rfl)
noncomputable def O8:List V:=[Z1,.aj,.aj,Z2,(sn 7 1 2),.aj,Z5,Z4x,.aj,Z3,Z1g,.aj,Z4,Z3h,.aj,Z9,Z3d,.aj,Zc,.aj,.aj,Zf,.aj,.aj,Z1w,Z2j,.aj,Z21,Z3n,.aj,Z22,Z35,.aj,Z23,Z4a,.aj,Z1v,Z4r,.aj,Z24,Z3i,.aj]
noncomputable def OB:List V:=(pu1 6 [Z2,Z1n,.aj] O8)
noncomputable def Sj:List V:=[Z2,Z3c]
noncomputable def MV:List (Nat×FO):=[(6,bk 3 [Z2,Z1n,.aj])]
noncomputable def adC:Fact:=fA 3 0 14 5 42 O8 Sj MV OB 19
theorem YE (w0:World):aZ Tryz.prog T w0 5 172 adC:=aW hT (xP w0) ⟨_,Tryz.func172,by kernel_rfl,rfl⟩ (show fZ 5 3 14 5 19 MV OB=true by kernel_rfl) (show fG T jE 5 1000 1000 172 3 0 14 5 O8 Sj MV OB 19=true by kernel_rfl) (fun d d'=>show fF T jE 5 1000 1000 172 3 0 14 5 O8 Sj MV OB 19 d d'=true by kernel_rfl)
noncomputable def O7:List V:=[Z1,.aj,.aj,Z2,(sn 7 1 2),.aj,Z2,Z56,.aj,Z5,Z1g,.aj,Z3,Z3h,.aj,Z4,Z3d,.aj,Z9,Z2j,.aj,Zc,.aj,.aj,Zf,.aj,.aj,Z1w,Z3n,.aj,Z21,Z35,.aj,Z22,Z4a,.aj,Z23,Z4r,.aj,Z1v,Z3i,.aj,Z24,Z40,.aj]
noncomputable def OA:List V:=(pu1 0 [Z0,Z3o,.aj] O7)
noncomputable def Si:List V:=[Z0,Z3c]
noncomputable def MS:List (Nat×FO):=[(6,bk 3 [Z0,Z3o,.aj])]
noncomputable def adB:Fact:=fA 3 0 15 5 45 O7 Si MS OA 20
theorem YD (w0:World):aZ Tryz.prog T w0 5 172 adB:=aW hT (xP w0) ⟨_,Tryz.func172,by kernel_rfl,rfl⟩ (show fZ 5 3 15 5 20 MS OA=true by kernel_rfl) (show fG T jE 5 1000 1000 172 3 0 15 5 O7 Si MS OA 20=true by kernel_rfl) (fun d d'=>show fF T jE 5 1000 1000 172 3 0 15 5 O7 Si MS OA 20 d d'=true by kernel_rfl)
noncomputable def O6:List V:=[Z0,Z3z,.aj,Z1,.aj,.aj,Z2,Z56,.aj,Z2,(sn 9 1 2),.aj,Z5,Z3h,.aj,Z3,Z3d,.aj,Z4,Z2j,.aj,Z9,Z3n,.aj,Zc,.aj,.aj,Zf,.aj,.aj,Z1w,Z35,.aj,Z21,Z4a,.aj,Z22,Z4r,.aj,Z23,Z3i,.aj,Z1v,Z40,.aj,Z24,Z3o,.aj]
noncomputable def Oz:List V:=(pu1 30 [Z34,Z57,.aj] O6)
noncomputable def RZ:List V:=[Zk,Z3c]
noncomputable def MR:List (Nat×FO):=[(6,bk 3 [Z34,Z57,.aj])]
noncomputable def adA:Fact:=fA 3 0 16 5 48 O6 RZ MR Oz 21
theorem YC (w0:World):aZ Tryz.prog T w0 5 172 adA:=aW hT (xP w0) ⟨_,Tryz.func172,by kernel_rfl,rfl⟩ (show fZ 5 3 16 5 21 MR Oz=true by kernel_rfl) (show fG T jE 5 1000 1000 172 3 0 16 5 O6 RZ MR Oz 21=true by kernel_rfl) (fun d d'=>show fF T jE 5 1000 1000 172 3 0 16 5 O6 RZ MR Oz 21 d d'=true by kernel_rfl)
noncomputable def Gi:List V:=[Z0,Z3z,.aj,Z1,.aj,.aj,Z2,Z56,.aj,Z2,(sn 9 1 2),.aj,Z5,Z3h,.aj,Z3,Z3d,.aj,Z4,Z2j,.aj,Z9,Z3n,.aj,Zc,.aj,.aj,Zf,.aj,.aj,Z34,Z35,.aj,Z1w,Z4a,.aj,Z21,Z4r,.aj,Z22,Z3i,.aj,Z23,Z40,.aj,Z1v,Z3o,.aj,Z24,Z57,.aj]
noncomputable def FI:List V:=(pu1 30 [Z3p,Z58,Z59] Gi)
noncomputable def JR:List V:=[Zk,Z3c]
noncomputable def Et:List (Nat×FO):=[(6,bk 3 [Z3p,Z58,Z59])]
noncomputable def Vq:Fact:=fA 3 0 17 5 51 Gi JR Et FI 23
theorem Vp (w0:World):aZ Tryz.prog T w0 5 172 Vq:=aW hT (xP w0) ⟨_,Tryz.func172,by kernel_rfl,rfl⟩ (show fZ 5 3 17 5 23 Et FI=true by kernel_rfl) (show fG T jE 5 1000 1000 172 3 0 17 5 Gi JR Et FI 23=true by kernel_rfl) (fun d d'=>show fF T jE 5 1000 1000 172 3 0 17 5 Gi JR Et FI 23 d d'=true by kernel_rfl)
noncomputable def agQ:Nat→Option FC:=ovl T 5 172 UG [adJ,adI,adH,adG,adF,adE,adD,adC,adB,adA,Vq] jE
set_option maxRecDepth 100000 in
theorem ahd (w0:World):dD Tryz.prog T w0 5 agQ:=bM (xP w0) (aI (YL w0) (aI (YK w0) (aI (YJ w0) (aI (YI w0) (aI (YH w0) (aI (YG w0) (aI (YF w0) (aI (YE w0) (aI (YD w0) (aI (YC w0) (aI (Vp w0) pV))))))))))) (aiK w0 5)
end Go.Proofs.YtdbkblcekmogkaaGreatDoor
namespace Go.Proofs.YtdbkblcekmogkaaGreatDoor
open Go Go.Sim
noncomputable def adz:List Fact:=[⟨[z15],[],5,bt,[],[],[],11⟩,⟨[z6],[],5,bt,[],[],[],13⟩,⟨[z4],[],5,bt,[],[],[],8⟩,⟨[z18],[],5,bt,[],[],[],11⟩,⟨[z1],[],5,bt,[],[],[],11⟩,⟨[z2],[],5,bt,[],[],[],12⟩,⟨[z9],[],5,bt,[],[],[],11⟩,⟨[z7],[],5,bt,[],[],[],12⟩,⟨[z0],[],5,bt,[],[],[],11⟩,⟨[z8],[],5,bt,[],[],[],12⟩,⟨[z12],[],5,bt,[],[],[],11⟩,⟨[z10],[],5,bt,[],[],[],12⟩,⟨[z5],[],5,bt,[],[],[],11⟩,⟨[z11],[],5,bt,[],[],[],11⟩,⟨[z24],[],5,bf,[],[],[],7⟩,⟨[z3],[],5,bt,[],[],[],11⟩,⟨[z17],[],5,bt,[],[],[],10⟩,⟨[z23],[],5,bt,[],[],[],15⟩,⟨[z19],[],5,bt,[],[],[],11⟩,⟨[z20],[],5,bt,[],[],[],11⟩,⟨[z21],[],5,bt,[],[],[],12⟩,⟨[z13],[],5,bf,[],[],[],7⟩,⟨[z14],[],5,bf,[],[],[],7⟩,⟨[z16],[],5,bf,[],[],[],7⟩,⟨[z26],[],5,bf,[],[],[],7⟩]
theorem dA2_0_ok:List.all adz (bI T agQ 5 1000 1000 152)=true:=by kernel_rfl
noncomputable def ZJ:Nat→Option FC:=ovl T 5 152 UH (adz) agQ
set_option maxRecDepth 100000 in
theorem aeN (w0:World):dD Tryz.prog T w0 5 ZJ:=bM (ahd w0) (aJ hT (ahd w0) (agA w0 5) dA2_0_ok) (agA w0 5)
end Go.Proofs.YtdbkblcekmogkaaGreatDoor
