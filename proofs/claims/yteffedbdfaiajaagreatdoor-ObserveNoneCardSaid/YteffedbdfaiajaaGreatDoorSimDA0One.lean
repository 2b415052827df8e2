/- Sim: facts of function 248 (slices.Insert[[]gameplayer/api.Term,gameplayer/api.Term]). Printed by a program (SimF3.lean). -/
import Derived.Test.YteffedbdfaiajaaGreatDoorSimPrAnd
set_option linter.unusedVariables false
set_option linter.unusedSimpArgs false
set_option linter.all false
namespace Go.Proofs.YteffedbdfaiajaaGreatDoor
open Go Go.Sim
noncomputable def Ht:List V:=[z13,Z3,z13,Z7]
noncomputable def GI:List V:=(pu1 0 [z17,Zg] Ht)
noncomputable def J5:List V:=[Z0,Ze]
noncomputable def EY:List (Nat×FO):=[(7,bk 2 [z17,Zg])]
noncomputable def WX:Fact:=dS 2 0 2 6 4 Ht J5 EY GI 11
theorem QJ (w0:WM):aT Tryz.prog T w0 6 248 WX:=aU hT (hF2 w0) ⟨_,Tryz.func248,by kernel_rfl,rfl⟩ (show eU 6 2 2 6 11 EY GI=true by kernel_rfl) (show eF T FF2 6 1000 1000 248 2 0 2 6 Ht J5 EY GI 11=true by kernel_rfl) (fun d d'=>show eu T FF2 6 1000 1000 248 2 0 2 6 Ht J5 EY GI 11 d d'=true by kernel_rfl)
noncomputable def Hr:List V:=[z17,Z3,z13,Z7,z13,Zg,z0,Z3,z1,Z3h,z1,Z20,z1,Z15]
noncomputable def GH:List V:=(pu1 2 [z5,Z21] Hr)
noncomputable def J4:List V:=[Z1,Ze]
noncomputable def EX:List (Nat×FO):=[(7,bk 2 [z5,Z21])]
noncomputable def WW:Fact:=dS 2 0 7 6 14 Hr J4 EX GH 15
theorem QI (w0:WM):aT Tryz.prog T w0 6 248 WW:=aU hT (hF2 w0) ⟨_,Tryz.func248,by kernel_rfl,rfl⟩ (show eU 6 2 7 6 15 EX GH=true by kernel_rfl) (show eF T FF2 6 1000 1000 248 2 0 7 6 Hr J4 EX GH 15=true by kernel_rfl) (fun d d'=>show eu T FF2 6 1000 1000 248 2 0 7 6 Hr J4 EX GH 15 d d'=true by kernel_rfl)
noncomputable def Hq:List V:=[z17,Z3,z5,Z7,z13,Zg,z13,Zp,z0,Z3,z1,Z20,z1,Z15,z1,Z1c]
noncomputable def Gz:List V:=(pu1 10 [z0,Z7] Hq)
noncomputable def J3:List V:=[Z6,Ze]
noncomputable def EW:List (Nat×FO):=[(7,bk 2 [z0,Z7])]
noncomputable def WV:Fact:=dS 2 0 8 6 16 Hq J3 EW Gz 15
theorem QH (w0:WM):aT Tryz.prog T w0 6 248 WV:=aU hT (hF2 w0) ⟨_,Tryz.func248,by kernel_rfl,rfl⟩ (show eU 6 2 8 6 15 EW Gz=true by kernel_rfl) (show eF T FF2 6 1000 1000 248 2 0 8 6 Hq J3 EW Gz 15=true by kernel_rfl) (fun d d'=>show eu T FF2 6 1000 1000 248 2 0 8 6 Hq J3 EW Gz 15 d d'=true by kernel_rfl)
noncomputable def Ho:List V:=[z17,Z3,z5,Z7,z13,Zg,z13,Zp,z0,Z3,z0,Z7,z1,Z20,z1,Z15,z1,Z1c]
noncomputable def Gy:List V:=(pu1 12 [z3,Z20] Ho)
noncomputable def JZ:List V:=[Zb,Ze]
noncomputable def EU:List (Nat×FO):=[(7,bk 2 [z3,Z20])]
noncomputable def WU:Fact:=dS 2 0 9 6 18 Ho JZ EU Gy 15
theorem QG (w0:WM):aT Tryz.prog T w0 6 248 WU:=aU hT (hF2 w0) ⟨_,Tryz.func248,by kernel_rfl,rfl⟩ (show eU 6 2 9 6 15 EU Gy=true by kernel_rfl) (show eF T FF2 6 1000 1000 248 2 0 9 6 Ho JZ EU Gy 15=true by kernel_rfl) (fun d d'=>show eu T FF2 6 1000 1000 248 2 0 9 6 Ho JZ EU Gy 15 d d'=true by kernel_rfl)
noncomputable def Hl:List V:=[z17,Z3,z5,Z7,z13,Zg,z13,Zp,z0,Z3,z0,Z7,z3,Z20,z1,Z20,z1,Z15,z1,Z1c]
noncomputable def Gx:List V:=(pu1 14 [z3,Z15] Hl)
noncomputable def JY:List V:=[Zf,Ze]
noncomputable def ET:List (Nat×FO):=[(7,bk 2 [z3,Z15])]
noncomputable def WT:Fact:=dS 2 0 10 6 20 Hl JY ET Gx 15
theorem QF (w0:WM):aT Tryz.prog T w0 6 248 WT:=aU hT (hF2 w0) ⟨_,Tryz.func248,by kernel_rfl,rfl⟩ (show eU 6 2 10 6 15 ET Gx=true by kernel_rfl) (show eF T FF2 6 1000 1000 248 2 0 10 6 Hl JY ET Gx 15=true by kernel_rfl) (fun d d'=>show eu T FF2 6 1000 1000 248 2 0 10 6 Hl JY ET Gx 15 d d'=true by kernel_rfl)
noncomputable def Hg:List V:=[z17,Z3,z5,Z7,z13,Zg,z13,Zp,z0,Z3,z0,Z7,z3,Z20,z3,Z15,z1,Z20,z1,Z15,z1,Z1c]
noncomputable def Gw:List V:=(pu1 16 [z3,Z1c] Hg)
noncomputable def JX:List V:=[Zo,Ze]
noncomputable def ES:List (Nat×FO):=[(7,bk 2 [z3,Z1c])]
noncomputable def WS:Fact:=dS 2 0 11 6 22 Hg JX ES Gw 15
theorem QE (w0:WM):aT Tryz.prog T w0 6 248 WS:=aU hT (hF2 w0) ⟨_,Tryz.func248,by kernel_rfl,rfl⟩ (show eU 6 2 11 6 15 ES Gw=true by kernel_rfl) (show eF T FF2 6 1000 1000 248 2 0 11 6 Hg JX ES Gw 15=true by kernel_rfl) (fun d d'=>show eu T FF2 6 1000 1000 248 2 0 11 6 Hg JX ES Gw 15 d d'=true by kernel_rfl)
noncomputable def Hf:List V:=[z17,Z3,z5,Z7,z13,Zg,z13,Zp,z0,Z3,z0,Z7,z3,Z20,z3,Z15,z3,Z1c,z1,Z20,z1,Z15,z1,Z1c,z1,Zw,z1,Zt]
noncomputable def Gv:List V:=(pu1 18 [z1,Zm] Hf)
noncomputable def JW:List V:=[Zk,Ze]
noncomputable def ER:List (Nat×FO):=[(7,bk 2 [z1,Zm])]
noncomputable def WR:Fact:=dS 2 0 14 6 28 Hf JW ER Gv 18
theorem QC (w0:WM):aT Tryz.prog T w0 6 248 WR:=aU hT (hF2 w0) ⟨_,Tryz.func248,by kernel_rfl,rfl⟩ (show eU 6 2 14 6 18 ER Gv=true by kernel_rfl) (show eF T FF2 6 1000 1000 248 2 0 14 6 Hf JW ER Gv 18=true by kernel_rfl) (fun d d'=>show eu T FF2 6 1000 1000 248 2 0 14 6 Hf JW ER Gv 18 d d'=true by kernel_rfl)
noncomputable def He:List V:=[z17,Z3,z5,Z7,z13,Zg,z13,Zp,z0,Z3,z0,Z7,z3,Z20,z3,Z15,z3,Z1c,z1,Zw,z1,Z20,z1,Z15,z1,Z1c,z1,Zt,z1,Zm]
noncomputable def Gu:List V:=(pu1 2 [z5,Z3i] He)
noncomputable def JV:List V:=[Z1,Ze]
noncomputable def EP:List (Nat×FO):=[(7,bk 2 [z5,Z3i])]
noncomputable def WQ:Fact:=dS 2 0 15 6 30 He JV EP Gu 19
theorem QB (w0:WM):aT Tryz.prog T w0 6 248 WQ:=aU hT (hF2 w0) ⟨_,Tryz.func248,by kernel_rfl,rfl⟩ (show eU 6 2 15 6 19 EP Gu=true by kernel_rfl) (show eF T FF2 6 1000 1000 248 2 0 15 6 He JV EP Gu 19=true by kernel_rfl) (fun d d'=>show eu T FF2 6 1000 1000 248 2 0 15 6 He JV EP Gu 19 d d'=true by kernel_rfl)
noncomputable def G9:List V:=[z17,Z3,z5,Z7,z5,Zg,z13,Zp,z13,Zy,z0,Z3,z0,Zg,z3,Z15,z3,Z1c,z3,Zw,z1,Zt,z1,Z15,z1,Z1c,z1,Zw,z1,Zm,z1,Z10]
noncomputable def Gt:List V:=(pu1 4 [z5,Z2t] G9)
noncomputable def JU:List V:=[Z2,Ze]
noncomputable def EO:List (Nat×FO):=[(7,bk 2 [z5,Z2t])]
noncomputable def WO:Fact:=dS 2 0 16 6 32 G9 JU EO Gt 20
theorem QA (w0:WM):aT Tryz.prog T w0 6 248 WO:=aU hT (hF2 w0) ⟨_,Tryz.func248,by kernel_rfl,rfl⟩ (show eU 6 2 16 6 20 EO Gt=true by kernel_rfl) (show eF T FF2 6 1000 1000 248 2 0 16 6 G9 JU EO Gt 20=true by kernel_rfl) (fun d d'=>show eu T FF2 6 1000 1000 248 2 0 16 6 G9 JU EO Gt 20 d d'=true by kernel_rfl)
noncomputable def G8:List V:=[z17,Z3,z5,Z7,z5,Zg,z5,Zp,z13,Zy,z13,Z13,z0,Z3,z0,Zp,z3,Z1c,z3,Zw,z3,Zt,z1,Zm,z1,Z1c,z1,Zw,z1,Zt,z1,Z10,z1,Zx]
noncomputable def Gs:List V:=(pu1 8 [z5,Z3j] G8)
noncomputable def JR:List V:=[Z8,Ze]
noncomputable def EN:List (Nat×FO):=[(7,bk 2 [z5,Z3j])]
noncomputable def WL:Fact:=dS 2 0 17 6 34 G8 JR EN Gs 21
theorem Qz (w0:WM):aT Tryz.prog T w0 6 248 WL:=aU hT (hF2 w0) ⟨_,Tryz.func248,by kernel_rfl,rfl⟩ (show eU 6 2 17 6 21 EN Gs=true by kernel_rfl) (show eF T FF2 6 1000 1000 248 2 0 17 6 G8 JR EN Gs 21=true by kernel_rfl) (fun d d'=>show eu T FF2 6 1000 1000 248 2 0 17 6 G8 JR EN Gs 21 d d'=true by kernel_rfl)
noncomputable def zJ:List V:=[z17,Z3,z5,Z7,z5,Zg,z5,Zp,z5,Zy,z13,Z13,z13,Z21,z0,Z3,z0,Zp,z3,Zw,z3,Zt,z3,Zm,z1,Z10,z1,Zw,z1,Zt,z1,Zm,z1,Zx,z1,Z16,z20,Zz]
noncomputable def zh:List V:=(pu1 14 [z0,Z7] zJ)
noncomputable def CY:List V:=[Zf,Ze]
noncomputable def yB:List (Nat×FO):=[(7,bk 2 [z0,Z7])]
noncomputable def Oa:Fact:=dS 2 0 19 6 38 zJ CY yB zh 22
theorem N9 (w0:WM):aT Tryz.prog T w0 6 248 Oa:=aU hT (hF2 w0) ⟨_,Tryz.func248,by kernel_rfl,rfl⟩ (show eU 6 2 19 6 22 yB zh=true by kernel_rfl) (show eF T FF2 6 1000 1000 248 2 0 19 6 zJ CY yB zh 22=true by kernel_rfl) (fun d d'=>show eu T FF2 6 1000 1000 248 2 0 19 6 zJ CY yB zh 22 d d'=true by kernel_rfl)
noncomputable def zI:List V:=[z17,Z3,z5,Z7,z5,Zg,z5,Zp,z5,Zy,z13,Z13,z13,Z21,z0,Z7,z0,Z3,z0,Zp,z3,Zw,z3,Zt,z3,Zm,z1,Z10,z1,Zw,z1,Zt,z1,Zm,z1,Zx,z1,Z16,z20,Zz]
noncomputable def zf:List V:=(pu1 16 [z0,Zg] zI)
noncomputable def CX:List V:=[Zo,Ze]
noncomputable def yA:List (Nat×FO):=[(7,bk 2 [z0,Zg])]
noncomputable def N7:Fact:=dS 2 0 20 6 40 zI CX yA zf 22
theorem NZ (w0:WM):aT Tryz.prog T w0 6 248 N7:=aU hT (hF2 w0) ⟨_,Tryz.func248,by kernel_rfl,rfl⟩ (show eU 6 2 20 6 22 yA zf=true by kernel_rfl) (show eF T FF2 6 1000 1000 248 2 0 20 6 zI CX yA zf 22=true by kernel_rfl) (fun d d'=>show eu T FF2 6 1000 1000 248 2 0 20 6 zI CX yA zf 22 d d'=true by kernel_rfl)
noncomputable def zH:List V:=[z17,Z3,z5,Z7,z5,Zg,z5,Zp,z5,Zy,z13,Z13,z13,Z21,z0,Z7,z0,Zg,z0,Z3,z0,Zp,z3,Zw,z3,Zt,z3,Zm,z1,Z10,z1,Zw,z1,Zt,z1,Zm,z1,Zx,z1,Z16,z20,Zz]
noncomputable def y9:List V:=(pu1 22 [z0,Zy] zH)
noncomputable def CW:List V:=[Z1l,Ze]
noncomputable def yx:List (Nat×FO):=[(7,bk 2 [z0,Zy])]
noncomputable def NY:Fact:=dS 2 0 21 6 42 zH CW yx y9 22
theorem NW (w0:WM):aT Tryz.prog T w0 6 248 NY:=aU hT (hF2 w0) ⟨_,Tryz.func248,by kernel_rfl,rfl⟩ (show eU 6 2 21 6 22 yx y9=true by kernel_rfl) (show eF T FF2 6 1000 1000 248 2 0 21 6 zH CW yx y9 22=true by kernel_rfl) (fun d d'=>show eu T FF2 6 1000 1000 248 2 0 21 6 zH CW yx y9 22 d d'=true by kernel_rfl)
noncomputable def zG:List V:=[z17,Z3,z5,Z7,z5,Zg,z5,Zp,z5,Zy,z13,Z13,z13,Z21,z0,Z7,z0,Zg,z0,Z3,z0,Zp,z0,Zy,z3,Zw,z3,Zt,z3,Zm,z1,Z10,z1,Zw,z1,Zt,z1,Zm,z1,Zx,z1,Z16,z20,Zz]
noncomputable def y8:List V:=(pu1 24 [z3,Z10] zG)
noncomputable def CV:List V:=[Zi,Ze]
noncomputable def yw:List (Nat×FO):=[(7,bk 2 [z3,Z10])]
noncomputable def NV:Fact:=dS 2 0 22 6 44 zG CV yw y8 22
theorem NU (w0:WM):aT Tryz.prog T w0 6 248 NV:=aU hT (hF2 w0) ⟨_,Tryz.func248,by kernel_rfl,rfl⟩ (show eU 6 2 22 6 22 yw y8=true by kernel_rfl) (show eF T FF2 6 1000 1000 248 2 0 22 6 zG CV yw y8 22=true by kernel_rfl) (fun d d'=>show eu T FF2 6 1000 1000 248 2 0 22 6 zG CV yw y8 22 d d'=true by kernel_rfl)
noncomputable def zF:List V:=[z17,Z3,z5,Z7,z5,Zg,z5,Zp,z5,Zy,z13,Z13,z13,Z21,z0,Z7,z0,Zg,z0,Z3,z0,Zp,z0,Zy,z3,Zw,z3,Zt,z3,Zm,z3,Z10,z1,Zw,z1,Zt,z1,Zm,z1,Z10,z1,Zx,z1,Z16,z20,Zz]
noncomputable def yZ:List V:=(pu1 32 [z3,Zx] zF)
noncomputable def CU:List V:=[Zq,Ze]
noncomputable def yu:List (Nat×FO):=[(7,bk 2 [z3,Zx])]
noncomputable def NT:Fact:=dS 2 0 23 6 46 zF CU yu yZ 22
theorem NS (w0:WM):aT Tryz.prog T w0 6 248 NT:=aU hT (hF2 w0) ⟨_,Tryz.func248,by kernel_rfl,rfl⟩ (show eU 6 2 23 6 22 yu yZ=true by kernel_rfl) (show eF T FF2 6 1000 1000 248 2 0 23 6 zF CU yu yZ 22=true by kernel_rfl) (fun d d'=>show eu T FF2 6 1000 1000 248 2 0 23 6 zF CU yu yZ 22 d d'=true by kernel_rfl)
noncomputable def zD:List V:=[z17,Z3,z5,Z7,z5,Zg,z5,Zp,z5,Zy,z13,Z13,z13,Z21,z0,Z7,z0,Zg,z0,Z3,z0,Zp,z0,Zy,z3,Zw,z3,Zt,z3,Zm,z3,Z10,z3,Zx,z1,Zw,z1,Zt,z1,Zm,z1,Z10,z1,Zx,z1,Z16,z20,Zz]
noncomputable def yY:List V:=(pu1 34 [z3,Z16] zD)
noncomputable def CS:List V:=[Z11,Ze]
noncomputable def yt:List (Nat×FO):=[(7,bk 2 [z3,Z16])]
noncomputable def NR:Fact:=dS 2 0 24 6 48 zD CS yt yY 22
theorem NQ (w0:WM):aT Tryz.prog T w0 6 248 NR:=aU hT (hF2 w0) ⟨_,Tryz.func248,by kernel_rfl,rfl⟩ (show eU 6 2 24 6 22 yt yY=true by kernel_rfl) (show eF T FF2 6 1000 1000 248 2 0 24 6 zD CS yt yY 22=true by kernel_rfl) (fun d d'=>show eu T FF2 6 1000 1000 248 2 0 24 6 zD CS yt yY 22 d d'=true by kernel_rfl)
noncomputable def zC:List V:=[z17,Z3,z5,Z7,z5,Zg,z5,Zp,z5,Zy,z13,Z13,z13,Z21,z0,Z7,z0,Zg,z0,Z3,z0,Zp,z0,Zy,z3,Zw,z3,Zt,z3,Zm,z3,Z10,z3,Zx,z3,Z16,z1,Zw,z1,Zt,z1,Zm,z1,Z10,z1,Zx,z1,Z16,z20,Zz]
noncomputable def yX:List V:=(pu1 2 [z5,Z1d] zC)
noncomputable def CQ:List V:=[Z1,Ze]
noncomputable def yj:List (Nat×FO):=[(7,bk 2 [z5,Z1d])]
noncomputable def NP:Fact:=dS 2 0 25 6 50 zC CQ yj yX 23
theorem NM (w0:WM):aT Tryz.prog T w0 6 248 NP:=aU hT (hF2 w0) ⟨_,Tryz.func248,by kernel_rfl,rfl⟩ (show eU 6 2 25 6 23 yj yX=true by kernel_rfl) (show eF T FF2 6 1000 1000 248 2 0 25 6 zC CQ yj yX 23=true by kernel_rfl) (fun d d'=>show eu T FF2 6 1000 1000 248 2 0 25 6 zC CQ yj yX 23 d d'=true by kernel_rfl)
noncomputable def zB:List V:=[z17,Z3,z5,Z7,z5,Zg,z5,Zp,z5,Zy,z5,Z13,z13,Z21,z13,Z2u,z0,Zg,z0,Zp,z0,Z3,z0,Zy,z0,Z13,z3,Zt,z3,Zm,z3,Z10,z3,Zx,z3,Z16,z3,Zz,z1,Zt,z1,Zm,z1,Z10,z1,Zx,z1,Z16,z1,Zz,z20,Z4w]
noncomputable def yV:List V:=(pu1 0 [z21,.aj] zB)
noncomputable def CP:List V:=[Z0,Ze]
noncomputable def yh:List (Nat×FO):=[(7,bk 2 [z21,.aj])]
noncomputable def NK:Fact:=dS 2 0 26 6 52 zB CP yh yV 23
theorem NJ (w0:WM):aT Tryz.prog T w0 6 248 NK:=aU hT (hF2 w0) ⟨_,Tryz.func248,by kernel_rfl,rfl⟩ (show eU 6 2 26 6 23 yh yV=true by kernel_rfl) (show eF T FF2 6 1000 1000 248 2 0 26 6 zB CP yh yV 23=true by kernel_rfl) (fun d d'=>show eu T FF2 6 1000 1000 248 2 0 26 6 zB CP yh yV 23 d d'=true by kernel_rfl)
noncomputable def zA:List V:=[z21,.aj,z17,Z3,z5,Z7,z5,Zg,z5,Zp,z5,Zy,z5,Z13,z13,Z21,z13,Z2u,z0,Zg,z0,Zp,z0,Z3,z0,Zy,z0,Z13,z3,Zt,z3,Zm,z3,Z10,z3,Zx,z3,Z16,z3,Zz,z1,Zt,z1,Zm,z1,Z10,z1,Zx,z1,Z16,z1,Zz,z20,Z4w]
noncomputable def yU:List V:=(pu1 40 [z18,Z3x] zA)
noncomputable def CO:List V:=[Z32,Ze]
noncomputable def yg:List (Nat×FO):=[(7,bk 2 [z18,Z3x])]
noncomputable def NI:Fact:=dS 2 0 27 6 54 zA CO yg yU 24
theorem NH (w0:WM):aT Tryz.prog T w0 6 248 NI:=aU hT (hF2 w0) ⟨_,Tryz.func248,by kernel_rfl,rfl⟩ (show eU 6 2 27 6 24 yg yU=true by kernel_rfl) (show eF T FF2 6 1000 1000 248 2 0 27 6 zA CO yg yU 24=true by kernel_rfl) (fun d d'=>show eu T FF2 6 1000 1000 248 2 0 27 6 zA CO yg yU 24 d d'=true by kernel_rfl)
noncomputable def zy:List V:=[z21,.aj,z17,Z3,z5,Z7,z5,Zg,z5,Zp,z5,Zy,z5,Z13,z13,Z21,z13,Z2u,z0,Zg,z0,Zp,z0,Z3,z0,Zy,z0,Z13,z3,Zt,z3,Zm,z3,Z10,z3,Zx,z3,Z16,z3,Zz,z18,Z4w,z1,Zt,z1,Zm,z1,Z10,z1,Zx,z1,Z16,z1,Zz,z20,Z3x]
noncomputable def yT:List V:=(pu1 18 [z0,Z7] zy)
noncomputable def CJ:List V:=[Zk,Ze]
noncomputable def yc:List (Nat×FO):=[(7,bk 2 [z0,Z7])]
noncomputable def NG:Fact:=dS 2 0 28 6 56 zy CJ yc yT 24
theorem ND (w0:WM):aT Tryz.prog T w0 6 248 NG:=aU hT (hF2 w0) ⟨_,Tryz.func248,by kernel_rfl,rfl⟩ (show eU 6 2 28 6 24 yc yT=true by kernel_rfl) (show eF T FF2 6 1000 1000 248 2 0 28 6 zy CJ yc yT 24=true by kernel_rfl) (fun d d'=>show eu T FF2 6 1000 1000 248 2 0 28 6 zy CJ yc yT 24 d d'=true by kernel_rfl)
noncomputable def zx:List V:=[z21,.aj,z17,Z3,z5,Z7,z5,Zg,z5,Zp,z5,Zy,z5,Z13,z13,Z21,z13,Z2u,z0,Z7,z0,Zg,z0,Zp,z0,Z3,z0,Zy,z0,Z13,z3,Zt,z3,Zm,z3,Z10,z3,Zx,z3,Z16,z3,Zz,z18,Z4w,z1,Zt,z1,Zm,z1,Z10,z1,Zx,z1,Z16,z1,Zz,z20,Z3x]
noncomputable def yS:List V:=(pu1 44 [z18,Z4n] zx)
noncomputable def CG:List V:=[Z2p,Ze]
noncomputable def x9:List (Nat×FO):=[(7,bk 2 [z18,Z4n])]
noncomputable def NC:Fact:=dS 2 0 29 6 58 zx CG x9 yS 25
theorem Nz (w0:WM):aT Tryz.prog T w0 6 248 NC:=aU hT (hF2 w0) ⟨_,Tryz.func248,by kernel_rfl,rfl⟩ (show eU 6 2 29 6 25 x9 yS=true by kernel_rfl) (show eF T FF2 6 1000 1000 248 2 0 29 6 zx CG x9 yS 25=true by kernel_rfl) (fun d d'=>show eu T FF2 6 1000 1000 248 2 0 29 6 zx CG x9 yS 25 d d'=true by kernel_rfl)
noncomputable def iE:Nat→Option FC:=ovl T 6 248 LW [WX,WW,WV,WU,WT,WS,WR,WQ,WO,WL,Oa,N7,NY,NV,NT,NR,NP,NK,NI,NG,NC] FF2
set_option maxRecDepth 100000 in
theorem qX (w0:WM):bU Tryz.prog T w0 6 iE:=bJ (hF2 w0) (aH (QJ w0) (aH (QI w0) (aH (QH w0) (aH (QG w0) (aH (QF w0) (aH (QE w0) (aH (QC w0) (aH (QB w0) (aH (QA w0) (aH (Qz w0) (aH (N9 w0) (aH (NZ w0) (aH (NW w0) (aH (NU w0) (aH (NS w0) (aH (NQ w0) (aH (NM w0) (aH (NJ w0) (aH (NH w0) (aH (ND w0) (aH (Nz w0) jU))))))))))))))))))))) (ac6 w0 6)
end Go.Proofs.YteffedbdfaiajaaGreatDoor
