/- Sim: facts of function 231 (slices.Insert[[]gameplayer/api.Term,gameplayer/api.Term]). Printed by a program (SimF3.lean). -/
import Derived.Test.YtoikephldpcpgaaGreatDoorSimFtOne
import Derived.Test.YtoikephldpcpgaaGreatDoorSimStrOne
set_option linter.unusedVariables false
set_option linter.unusedSimpArgs false
set_option linter.all false
namespace Go.Proofs.YtoikephldpcpgaaGreatDoor
open Go Go.Sim
noncomputable def Qg:List V:=[z14,Z4,z14,Z8]
noncomputable def PG:List V:=(pu1 0 [z17,Zg] Qg)
noncomputable def TT:List V:=[Z0,Ze]
noncomputable def NZ:List (Nat×FO):=[(8,bk 2 [z17,Zg])]
noncomputable def aei:Fact:=fD 2 0 2 7 4 Qg TT NZ PG 12
theorem ZO (w0:World):bn Tryz.prog T w0 7 231 aei:=aX hT (hF w0) ⟨_,Tryz.func231,by kernel_rfl,rfl⟩ (show gu 7 2 2 7 12 NZ PG=true by kernel_rfl) (show fQ T FF 7 1000 1000 231 2 0 2 7 Qg TT NZ PG 12=true by kernel_rfl) (fun d d'=>show fP T FF 7 1000 1000 231 2 0 2 7 Qg TT NZ PG 12 d d'=true by kernel_rfl)
noncomputable def Qe:List V:=[z17,Z4,z14,Z8,z14,Zg,z0,Z4,z1,Z3h,z1,Z21,z1,Z17]
noncomputable def PE:List V:=(pu1 2 [z5,Z22] Qe)
noncomputable def TS:List V:=[Z1,Ze]
noncomputable def NY:List (Nat×FO):=[(8,bk 2 [z5,Z22])]
noncomputable def aeh:Fact:=fD 2 0 7 7 14 Qe TS NY PE 16
theorem ZN (w0:World):bn Tryz.prog T w0 7 231 aeh:=aX hT (hF w0) ⟨_,Tryz.func231,by kernel_rfl,rfl⟩ (show gu 7 2 7 7 16 NY PE=true by kernel_rfl) (show fQ T FF 7 1000 1000 231 2 0 7 7 Qe TS NY PE 16=true by kernel_rfl) (fun d d'=>show fP T FF 7 1000 1000 231 2 0 7 7 Qe TS NY PE 16 d d'=true by kernel_rfl)
noncomputable def Qd:List V:=[z17,Z4,z5,Z8,z14,Zg,z14,Zq,z0,Z4,z1,Z21,z1,Z17,z1,Z1g]
noncomputable def Pz:List V:=(pu1 10 [z0,Z8] Qd)
noncomputable def TR:List V:=[Z6,Ze]
noncomputable def NW:List (Nat×FO):=[(8,bk 2 [z0,Z8])]
noncomputable def aeg:Fact:=fD 2 0 8 7 16 Qd TR NW Pz 16
theorem ZM (w0:World):bn Tryz.prog T w0 7 231 aeg:=aX hT (hF w0) ⟨_,Tryz.func231,by kernel_rfl,rfl⟩ (show gu 7 2 8 7 16 NW Pz=true by kernel_rfl) (show fQ T FF 7 1000 1000 231 2 0 8 7 Qd TR NW Pz 16=true by kernel_rfl) (fun d d'=>show fP T FF 7 1000 1000 231 2 0 8 7 Qd TR NW Pz 16 d d'=true by kernel_rfl)
noncomputable def Qc:List V:=[z17,Z4,z5,Z8,z14,Zg,z14,Zq,z0,Z4,z0,Z8,z1,Z21,z1,Z17,z1,Z1g]
noncomputable def Py:List V:=(pu1 12 [z3,Z21] Qc)
noncomputable def TQ:List V:=[Zb,Ze]
noncomputable def NV:List (Nat×FO):=[(8,bk 2 [z3,Z21])]
noncomputable def aef:Fact:=fD 2 0 9 7 18 Qc TQ NV Py 16
theorem ZL (w0:World):bn Tryz.prog T w0 7 231 aef:=aX hT (hF w0) ⟨_,Tryz.func231,by kernel_rfl,rfl⟩ (show gu 7 2 9 7 16 NV Py=true by kernel_rfl) (show fQ T FF 7 1000 1000 231 2 0 9 7 Qc TQ NV Py 16=true by kernel_rfl) (fun d d'=>show fP T FF 7 1000 1000 231 2 0 9 7 Qc TQ NV Py 16 d d'=true by kernel_rfl)
noncomputable def Qb:List V:=[z17,Z4,z5,Z8,z14,Zg,z14,Zq,z0,Z4,z0,Z8,z3,Z21,z1,Z21,z1,Z17,z1,Z1g]
noncomputable def Px:List V:=(pu1 14 [z3,Z17] Qb)
noncomputable def TP:List V:=[Zf,Ze]
noncomputable def NU:List (Nat×FO):=[(8,bk 2 [z3,Z17])]
noncomputable def aee:Fact:=fD 2 0 10 7 20 Qb TP NU Px 16
theorem ZK (w0:World):bn Tryz.prog T w0 7 231 aee:=aX hT (hF w0) ⟨_,Tryz.func231,by kernel_rfl,rfl⟩ (show gu 7 2 10 7 16 NU Px=true by kernel_rfl) (show fQ T FF 7 1000 1000 231 2 0 10 7 Qb TP NU Px 16=true by kernel_rfl) (fun d d'=>show fP T FF 7 1000 1000 231 2 0 10 7 Qb TP NU Px 16 d d'=true by kernel_rfl)
noncomputable def Qa:List V:=[z17,Z4,z5,Z8,z14,Zg,z14,Zq,z0,Z4,z0,Z8,z3,Z21,z3,Z17,z1,Z21,z1,Z17,z1,Z1g]
noncomputable def Pv:List V:=(pu1 16 [z3,Z1g] Qa)
noncomputable def TN:List V:=[Zm,Ze]
noncomputable def NT:List (Nat×FO):=[(8,bk 2 [z3,Z1g])]
noncomputable def aed:Fact:=fD 2 0 11 7 22 Qa TN NT Pv 16
theorem ZJ (w0:World):bn Tryz.prog T w0 7 231 aed:=aX hT (hF w0) ⟨_,Tryz.func231,by kernel_rfl,rfl⟩ (show gu 7 2 11 7 16 NT Pv=true by kernel_rfl) (show fQ T FF 7 1000 1000 231 2 0 11 7 Qa TN NT Pv 16=true by kernel_rfl) (fun d d'=>show fP T FF 7 1000 1000 231 2 0 11 7 Qa TN NT Pv 16 d d'=true by kernel_rfl)
noncomputable def P9:List V:=[z17,Z4,z5,Z8,z14,Zg,z14,Zq,z0,Z4,z0,Z8,z3,Z21,z3,Z17,z3,Z1g,z1,Z21,z1,Z17,z1,Z1g,z1,Zw,z1,Zt]
noncomputable def Pq:List V:=(pu1 18 [z1,Zo] P9)
noncomputable def TM:List V:=[Zk,Ze]
noncomputable def NS:List (Nat×FO):=[(8,bk 2 [z1,Zo])]
noncomputable def aec:Fact:=fD 2 0 14 7 28 P9 TM NS Pq 19
theorem ZI (w0:World):bn Tryz.prog T w0 7 231 aec:=aX hT (hF w0) ⟨_,Tryz.func231,by kernel_rfl,rfl⟩ (show gu 7 2 14 7 19 NS Pq=true by kernel_rfl) (show fQ T FF 7 1000 1000 231 2 0 14 7 P9 TM NS Pq 19=true by kernel_rfl) (fun d d'=>show fP T FF 7 1000 1000 231 2 0 14 7 P9 TM NS Pq 19 d d'=true by kernel_rfl)
noncomputable def P8:List V:=[z17,Z4,z5,Z8,z14,Zg,z14,Zq,z0,Z4,z0,Z8,z3,Z21,z3,Z17,z3,Z1g,z1,Zw,z1,Z21,z1,Z17,z1,Z1g,z1,Zt,z1,Zo]
noncomputable def Po:List V:=(pu1 2 [z5,Z3i] P8)
noncomputable def TL:List V:=[Z1,Ze]
noncomputable def NR:List (Nat×FO):=[(8,bk 2 [z5,Z3i])]
noncomputable def aeb:Fact:=fD 2 0 15 7 30 P8 TL NR Po 20
theorem ZH (w0:World):bn Tryz.prog T w0 7 231 aeb:=aX hT (hF w0) ⟨_,Tryz.func231,by kernel_rfl,rfl⟩ (show gu 7 2 15 7 20 NR Po=true by kernel_rfl) (show fQ T FF 7 1000 1000 231 2 0 15 7 P8 TL NR Po 20=true by kernel_rfl) (fun d d'=>show fP T FF 7 1000 1000 231 2 0 15 7 P8 TL NR Po 20 d d'=true by kernel_rfl)
noncomputable def P7:List V:=[z17,Z4,z5,Z8,z5,Zg,z14,Zq,z14,Zy,z0,Z4,z0,Zg,z3,Z17,z3,Z1g,z3,Zw,z1,Zt,z1,Z17,z1,Z1g,z1,Zw,z1,Zo,z1,Z10]
noncomputable def Pn:List V:=(pu1 4 [z5,Z2t] P7)
noncomputable def TJ:List V:=[Z2,Ze]
noncomputable def NQ:List (Nat×FO):=[(8,bk 2 [z5,Z2t])]
noncomputable def aea:Fact:=fD 2 0 16 7 32 P7 TJ NQ Pn 21
theorem ZG (w0:World):bn Tryz.prog T w0 7 231 aea:=aX hT (hF w0) ⟨_,Tryz.func231,by kernel_rfl,rfl⟩ (show gu 7 2 16 7 21 NQ Pn=true by kernel_rfl) (show fQ T FF 7 1000 1000 231 2 0 16 7 P7 TJ NQ Pn 21=true by kernel_rfl) (fun d d'=>show fP T FF 7 1000 1000 231 2 0 16 7 P7 TJ NQ Pn 21 d d'=true by kernel_rfl)
noncomputable def P6:List V:=[z17,Z4,z5,Z8,z5,Zg,z5,Zq,z14,Zy,z14,Z13,z0,Z4,z0,Zq,z3,Z1g,z3,Zw,z3,Zt,z1,Zo,z1,Z1g,z1,Zw,z1,Zt,z1,Z10,z1,Zx]
noncomputable def Pm:List V:=(pu1 8 [z5,Z3j] P6)
noncomputable def TI:List V:=[Z7,Ze]
noncomputable def NP:List (Nat×FO):=[(8,bk 2 [z5,Z3j])]
noncomputable def ad9:Fact:=fD 2 0 17 7 34 P6 TI NP Pm 22
theorem ZF (w0:World):bn Tryz.prog T w0 7 231 ad9:=aX hT (hF w0) ⟨_,Tryz.func231,by kernel_rfl,rfl⟩ (show gu 7 2 17 7 22 NP Pm=true by kernel_rfl) (show fQ T FF 7 1000 1000 231 2 0 17 7 P6 TI NP Pm 22=true by kernel_rfl) (fun d d'=>show fP T FF 7 1000 1000 231 2 0 17 7 P6 TI NP Pm 22 d d'=true by kernel_rfl)
noncomputable def Ho:List V:=[z17,Z4,z5,Z8,z5,Zg,z5,Zq,z5,Zy,z14,Z13,z14,Z22,z0,Z4,z0,Zq,z3,Zw,z3,Zt,z3,Zo,z1,Z10,z1,Zw,z1,Zt,z1,Zo,z1,Zx,z1,Z18,z20,Zz]
noncomputable def GL:List V:=(pu1 14 [z0,Z8] Ho)
noncomputable def KL:List V:=[Zf,Ze]
noncomputable def FH:List (Nat×FO):=[(8,bk 2 [z0,Z8])]
noncomputable def WI:Fact:=fD 2 0 19 7 38 Ho KL FH GL 23
theorem WH (w0:World):bn Tryz.prog T w0 7 231 WI:=aX hT (hF w0) ⟨_,Tryz.func231,by kernel_rfl,rfl⟩ (show gu 7 2 19 7 23 FH GL=true by kernel_rfl) (show fQ T FF 7 1000 1000 231 2 0 19 7 Ho KL FH GL 23=true by kernel_rfl) (fun d d'=>show fP T FF 7 1000 1000 231 2 0 19 7 Ho KL FH GL 23 d d'=true by kernel_rfl)
noncomputable def Hl:List V:=[z17,Z4,z5,Z8,z5,Zg,z5,Zq,z5,Zy,z14,Z13,z14,Z22,z0,Z8,z0,Z4,z0,Zq,z3,Zw,z3,Zt,z3,Zo,z1,Z10,z1,Zw,z1,Zt,z1,Zo,z1,Zx,z1,Z18,z20,Zz]
noncomputable def GK:List V:=(pu1 16 [z0,Zg] Hl)
noncomputable def KJ:List V:=[Zm,Ze]
noncomputable def FD:List (Nat×FO):=[(8,bk 2 [z0,Zg])]
noncomputable def WG:Fact:=fD 2 0 20 7 40 Hl KJ FD GK 23
theorem WE (w0:World):bn Tryz.prog T w0 7 231 WG:=aX hT (hF w0) ⟨_,Tryz.func231,by kernel_rfl,rfl⟩ (show gu 7 2 20 7 23 FD GK=true by kernel_rfl) (show fQ T FF 7 1000 1000 231 2 0 20 7 Hl KJ FD GK 23=true by kernel_rfl) (fun d d'=>show fP T FF 7 1000 1000 231 2 0 20 7 Hl KJ FD GK 23 d d'=true by kernel_rfl)
noncomputable def Hg:List V:=[z17,Z4,z5,Z8,z5,Zg,z5,Zq,z5,Zy,z14,Z13,z14,Z22,z0,Z8,z0,Zg,z0,Z4,z0,Zq,z3,Zw,z3,Zt,z3,Zo,z1,Z10,z1,Zw,z1,Zt,z1,Zo,z1,Zx,z1,Z18,z20,Zz]
noncomputable def GI:List V:=(pu1 22 [z0,Zy] Hg)
noncomputable def KI:List V:=[Z1d,Ze]
noncomputable def FB:List (Nat×FO):=[(8,bk 2 [z0,Zy])]
noncomputable def WC:Fact:=fD 2 0 21 7 42 Hg KI FB GI 23
theorem WB (w0:World):bn Tryz.prog T w0 7 231 WC:=aX hT (hF w0) ⟨_,Tryz.func231,by kernel_rfl,rfl⟩ (show gu 7 2 21 7 23 FB GI=true by kernel_rfl) (show fQ T FF 7 1000 1000 231 2 0 21 7 Hg KI FB GI 23=true by kernel_rfl) (fun d d'=>show fP T FF 7 1000 1000 231 2 0 21 7 Hg KI FB GI 23 d d'=true by kernel_rfl)
noncomputable def Hf:List V:=[z17,Z4,z5,Z8,z5,Zg,z5,Zq,z5,Zy,z14,Z13,z14,Z22,z0,Z8,z0,Zg,z0,Z4,z0,Zq,z0,Zy,z3,Zw,z3,Zt,z3,Zo,z1,Z10,z1,Zw,z1,Zt,z1,Zo,z1,Zx,z1,Z18,z20,Zz]
noncomputable def GH:List V:=(pu1 24 [z3,Z10] Hf)
noncomputable def KH:List V:=[Zi,Ze]
noncomputable def Fz:List (Nat×FO):=[(8,bk 2 [z3,Z10])]
noncomputable def WA:Fact:=fD 2 0 22 7 44 Hf KH Fz GH 23
theorem Wy (w0:World):bn Tryz.prog T w0 7 231 WA:=aX hT (hF w0) ⟨_,Tryz.func231,by kernel_rfl,rfl⟩ (show gu 7 2 22 7 23 Fz GH=true by kernel_rfl) (show fQ T FF 7 1000 1000 231 2 0 22 7 Hf KH Fz GH 23=true by kernel_rfl) (fun d d'=>show fP T FF 7 1000 1000 231 2 0 22 7 Hf KH Fz GH 23 d d'=true by kernel_rfl)
noncomputable def He:List V:=[z17,Z4,z5,Z8,z5,Zg,z5,Zq,z5,Zy,z14,Z13,z14,Z22,z0,Z8,z0,Zg,z0,Z4,z0,Zq,z0,Zy,z3,Zw,z3,Zt,z3,Zo,z3,Z10,z1,Zw,z1,Zt,z1,Zo,z1,Z10,z1,Zx,z1,Z18,z20,Zz]
noncomputable def Gz:List V:=(pu1 32 [z3,Zx] He)
noncomputable def KG:List V:=[Zp,Ze]
noncomputable def Fv:List (Nat×FO):=[(8,bk 2 [z3,Zx])]
noncomputable def Wx:Fact:=fD 2 0 23 7 46 He KG Fv Gz 23
theorem Wv (w0:World):bn Tryz.prog T w0 7 231 Wx:=aX hT (hF w0) ⟨_,Tryz.func231,by kernel_rfl,rfl⟩ (show gu 7 2 23 7 23 Fv Gz=true by kernel_rfl) (show fQ T FF 7 1000 1000 231 2 0 23 7 He KG Fv Gz 23=true by kernel_rfl) (fun d d'=>show fP T FF 7 1000 1000 231 2 0 23 7 He KG Fv Gz 23 d d'=true by kernel_rfl)
noncomputable def G9:List V:=[z17,Z4,z5,Z8,z5,Zg,z5,Zq,z5,Zy,z14,Z13,z14,Z22,z0,Z8,z0,Zg,z0,Z4,z0,Zq,z0,Zy,z3,Zw,z3,Zt,z3,Zo,z3,Z10,z3,Zx,z1,Zw,z1,Zt,z1,Zo,z1,Z10,z1,Zx,z1,Z18,z20,Zz]
noncomputable def Gy:List V:=(pu1 34 [z3,Z18] G9)
noncomputable def KF:List V:=[Z11,Ze]
noncomputable def Fq:List (Nat×FO):=[(8,bk 2 [z3,Z18])]
noncomputable def Wu:Fact:=fD 2 0 24 7 48 G9 KF Fq Gy 23
theorem Ws (w0:World):bn Tryz.prog T w0 7 231 Wu:=aX hT (hF w0) ⟨_,Tryz.func231,by kernel_rfl,rfl⟩ (show gu 7 2 24 7 23 Fq Gy=true by kernel_rfl) (show fQ T FF 7 1000 1000 231 2 0 24 7 G9 KF Fq Gy 23=true by kernel_rfl) (fun d d'=>show fP T FF 7 1000 1000 231 2 0 24 7 G9 KF Fq Gy 23 d d'=true by kernel_rfl)
noncomputable def G8:List V:=[z17,Z4,z5,Z8,z5,Zg,z5,Zq,z5,Zy,z14,Z13,z14,Z22,z0,Z8,z0,Zg,z0,Z4,z0,Zq,z0,Zy,z3,Zw,z3,Zt,z3,Zo,z3,Z10,z3,Zx,z3,Z18,z1,Zw,z1,Zt,z1,Zo,z1,Z10,z1,Zx,z1,Z18,z20,Zz]
noncomputable def Gx:List V:=(pu1 2 [z5,Z1h] G8)
noncomputable def KD:List V:=[Z1,Ze]
noncomputable def Fp:List (Nat×FO):=[(8,bk 2 [z5,Z1h])]
noncomputable def Wq:Fact:=fD 2 0 25 7 50 G8 KD Fp Gx 24
theorem Wp (w0:World):bn Tryz.prog T w0 7 231 Wq:=aX hT (hF w0) ⟨_,Tryz.func231,by kernel_rfl,rfl⟩ (show gu 7 2 25 7 24 Fp Gx=true by kernel_rfl) (show fQ T FF 7 1000 1000 231 2 0 25 7 G8 KD Fp Gx 24=true by kernel_rfl) (fun d d'=>show fP T FF 7 1000 1000 231 2 0 25 7 G8 KD Fp Gx 24 d d'=true by kernel_rfl)
noncomputable def G7:List V:=[z17,Z4,z5,Z8,z5,Zg,z5,Zq,z5,Zy,z5,Z13,z14,Z22,z14,Z2u,z0,Zg,z0,Zq,z0,Z4,z0,Zy,z0,Z13,z3,Zt,z3,Zo,z3,Z10,z3,Zx,z3,Z18,z3,Zz,z1,Zt,z1,Zo,z1,Z10,z1,Zx,z1,Z18,z1,Zz,z20,Z4x]
noncomputable def Gw:List V:=(pu1 0 [z21,.aj] G7)
noncomputable def KC:List V:=[Z0,Ze]
noncomputable def Fj:List (Nat×FO):=[(8,bk 2 [z21,.aj])]
noncomputable def Wn:Fact:=fD 2 0 26 7 52 G7 KC Fj Gw 24
theorem Wj (w0:World):bn Tryz.prog T w0 7 231 Wn:=aX hT (hF w0) ⟨_,Tryz.func231,by kernel_rfl,rfl⟩ (show gu 7 2 26 7 24 Fj Gw=true by kernel_rfl) (show fQ T FF 7 1000 1000 231 2 0 26 7 G7 KC Fj Gw 24=true by kernel_rfl) (fun d d'=>show fP T FF 7 1000 1000 231 2 0 26 7 G7 KC Fj Gw 24 d d'=true by kernel_rfl)
noncomputable def G6:List V:=[z21,.aj,z17,Z4,z5,Z8,z5,Zg,z5,Zq,z5,Zy,z5,Z13,z14,Z22,z14,Z2u,z0,Zg,z0,Zq,z0,Z4,z0,Zy,z0,Z13,z3,Zt,z3,Zo,z3,Z10,z3,Zx,z3,Z18,z3,Zz,z1,Zt,z1,Zo,z1,Z10,z1,Zx,z1,Z18,z1,Zz,z20,Z4x]
noncomputable def Gv:List V:=(pu1 40 [z18,Z3z] G6)
noncomputable def KA:List V:=[Z36,Ze]
noncomputable def Fh:List (Nat×FO):=[(8,bk 2 [z18,Z3z])]
noncomputable def Wi:Fact:=fD 2 0 27 7 54 G6 KA Fh Gv 25
theorem Wh (w0:World):bn Tryz.prog T w0 7 231 Wi:=aX hT (hF w0) ⟨_,Tryz.func231,by kernel_rfl,rfl⟩ (show gu 7 2 27 7 25 Fh Gv=true by kernel_rfl) (show fQ T FF 7 1000 1000 231 2 0 27 7 G6 KA Fh Gv 25=true by kernel_rfl) (fun d d'=>show fP T FF 7 1000 1000 231 2 0 27 7 G6 KA Fh Gv 25 d d'=true by kernel_rfl)
noncomputable def G5:List V:=[z21,.aj,z17,Z4,z5,Z8,z5,Zg,z5,Zq,z5,Zy,z5,Z13,z14,Z22,z14,Z2u,z0,Zg,z0,Zq,z0,Z4,z0,Zy,z0,Z13,z3,Zt,z3,Zo,z3,Z10,z3,Zx,z3,Z18,z3,Zz,z18,Z4x,z1,Zt,z1,Zo,z1,Z10,z1,Zx,z1,Z18,z1,Zz,z20,Z3z]
noncomputable def Gu:List V:=(pu1 18 [z0,Z8] G5)
noncomputable def Kz:List V:=[Zk,Ze]
noncomputable def Fg:List (Nat×FO):=[(8,bk 2 [z0,Z8])]
noncomputable def V9:Fact:=fD 2 0 28 7 56 G5 Kz Fg Gu 25
theorem V8 (w0:World):bn Tryz.prog T w0 7 231 V9:=aX hT (hF w0) ⟨_,Tryz.func231,by kernel_rfl,rfl⟩ (show gu 7 2 28 7 25 Fg Gu=true by kernel_rfl) (show fQ T FF 7 1000 1000 231 2 0 28 7 G5 Kz Fg Gu 25=true by kernel_rfl) (fun d d'=>show fP T FF 7 1000 1000 231 2 0 28 7 G5 Kz Fg Gu 25 d d'=true by kernel_rfl)
noncomputable def GZ:List V:=[z21,.aj,z17,Z4,z5,Z8,z5,Zg,z5,Zq,z5,Zy,z5,Z13,z14,Z22,z14,Z2u,z0,Z8,z0,Zg,z0,Zq,z0,Z4,z0,Zy,z0,Z13,z3,Zt,z3,Zo,z3,Z10,z3,Zx,z3,Z18,z3,Zz,z18,Z4x,z1,Zt,z1,Zo,z1,Z10,z1,Zx,z1,Z18,z1,Zz,z20,Z3z]
noncomputable def Gt:List V:=(pu1 44 [z18,Z4n] GZ)
noncomputable def Ky:List V:=[Z2p,Ze]
noncomputable def Fe:List (Nat×FO):=[(8,bk 2 [z18,Z4n])]
noncomputable def V7:Fact:=fD 2 0 29 7 58 GZ Ky Fe Gt 26
theorem V6 (w0:World):bn Tryz.prog T w0 7 231 V7:=aX hT (hF w0) ⟨_,Tryz.func231,by kernel_rfl,rfl⟩ (show gu 7 2 29 7 26 Fe Gt=true by kernel_rfl) (show fQ T FF 7 1000 1000 231 2 0 29 7 GZ Ky Fe Gt 26=true by kernel_rfl) (fun d d'=>show fP T FF 7 1000 1000 231 2 0 29 7 GZ Ky Fe Gt 26 d d'=true by kernel_rfl)
noncomputable def jA:Nat→Option FC:=ovl T 7 231 Vd [aei,aeh,aeg,aef,aee,aed,aec,aeb,aea,ad9,WI,WG,WC,WA,Wx,Wu,Wq,Wn,Wi,V9,V7] FF
set_option maxRecDepth 100000 in
theorem yA (w0:World):dP Tryz.prog T w0 7 jA:=cu (hF w0) (aJ (ZO w0) (aJ (ZN w0) (aJ (ZM w0) (aJ (ZL w0) (aJ (ZK w0) (aJ (ZJ w0) (aJ (ZI w0) (aJ (ZH w0) (aJ (ZG w0) (aJ (ZF w0) (aJ (WH w0) (aJ (WE w0) (aJ (WB w0) (aJ (Wy w0) (aJ (Wv w0) (aJ (Ws w0) (aJ (Wp w0) (aJ (Wj w0) (aJ (Wh w0) (aJ (V8 w0) (aJ (V6 w0) Em))))))))))))))))))))) (aja w0 7)
end Go.Proofs.YtoikephldpcpgaaGreatDoor
