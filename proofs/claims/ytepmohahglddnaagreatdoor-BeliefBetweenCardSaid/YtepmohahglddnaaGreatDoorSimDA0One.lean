/- Sim: facts of function 218 (slices.Insert[[]gameplayer/api.Term,gameplayer/api.Term]). Printed by a program (SimF3.lean). -/
import Derived.Test.YtepmohahglddnaaGreatDoorSimFtOne
import Derived.Test.YtepmohahglddnaaGreatDoorSimStrOne
set_option linter.unusedVariables false
set_option linter.unusedSimpArgs false
set_option linter.all false
namespace Go.Proofs.YtepmohahglddnaaGreatDoor
open Go Go.Sim
noncomputable def Qk:List V:=[z14,Z4,z14,Z8]
noncomputable def PL:List V:=(pu1 0 [z17,Zg] Qk)
noncomputable def TR:List V:=[Z0,Ze]
noncomputable def N9:List (Nat×FO):=[(8,bk 2 [z17,Zg])]
noncomputable def aeb:Fact:=fD 2 0 2 7 4 Qk TR N9 PL 12
theorem ZO (w0:World):bg Tryz.prog T w0 7 218 aeb:=aX hT (hF w0) ⟨_,Tryz.func218,by kernel_rfl,rfl⟩ (show gu 7 2 2 7 12 N9 PL=true by kernel_rfl) (show fQ T FF 7 1000 1000 218 2 0 2 7 Qk TR N9 PL 12=true by kernel_rfl) (fun d d'=>show fP T FF 7 1000 1000 218 2 0 2 7 Qk TR N9 PL 12 d d'=true by kernel_rfl)
noncomputable def Qj:List V:=[z17,Z4,z14,Z8,z14,Zg,z0,Z4,z1,Z3h,z1,Z21,z1,Z17]
noncomputable def PK:List V:=(pu1 2 [z5,Z22] Qj)
noncomputable def TQ:List V:=[Z1,Ze]
noncomputable def N7:List (Nat×FO):=[(8,bk 2 [z5,Z22])]
noncomputable def aea:Fact:=fD 2 0 7 7 14 Qj TQ N7 PK 16
theorem ZN (w0:World):bg Tryz.prog T w0 7 218 aea:=aX hT (hF w0) ⟨_,Tryz.func218,by kernel_rfl,rfl⟩ (show gu 7 2 7 7 16 N7 PK=true by kernel_rfl) (show fQ T FF 7 1000 1000 218 2 0 7 7 Qj TQ N7 PK 16=true by kernel_rfl) (fun d d'=>show fP T FF 7 1000 1000 218 2 0 7 7 Qj TQ N7 PK 16 d d'=true by kernel_rfl)
noncomputable def Qi:List V:=[z17,Z4,z5,Z8,z14,Zg,z14,Zq,z0,Z4,z1,Z21,z1,Z17,z1,Z1g]
noncomputable def PI:List V:=(pu1 10 [z0,Z8] Qi)
noncomputable def TP:List V:=[Z6,Ze]
noncomputable def NZ:List (Nat×FO):=[(8,bk 2 [z0,Z8])]
noncomputable def ad9:Fact:=fD 2 0 8 7 16 Qi TP NZ PI 16
theorem ZM (w0:World):bg Tryz.prog T w0 7 218 ad9:=aX hT (hF w0) ⟨_,Tryz.func218,by kernel_rfl,rfl⟩ (show gu 7 2 8 7 16 NZ PI=true by kernel_rfl) (show fQ T FF 7 1000 1000 218 2 0 8 7 Qi TP NZ PI 16=true by kernel_rfl) (fun d d'=>show fP T FF 7 1000 1000 218 2 0 8 7 Qi TP NZ PI 16 d d'=true by kernel_rfl)
noncomputable def Qh:List V:=[z17,Z4,z5,Z8,z14,Zg,z14,Zq,z0,Z4,z0,Z8,z1,Z21,z1,Z17,z1,Z1g]
noncomputable def PG:List V:=(pu1 12 [z3,Z21] Qh)
noncomputable def TN:List V:=[Zb,Ze]
noncomputable def NY:List (Nat×FO):=[(8,bk 2 [z3,Z21])]
noncomputable def ad8:Fact:=fD 2 0 9 7 18 Qh TN NY PG 16
theorem ZL (w0:World):bg Tryz.prog T w0 7 218 ad8:=aX hT (hF w0) ⟨_,Tryz.func218,by kernel_rfl,rfl⟩ (show gu 7 2 9 7 16 NY PG=true by kernel_rfl) (show fQ T FF 7 1000 1000 218 2 0 9 7 Qh TN NY PG 16=true by kernel_rfl) (fun d d'=>show fP T FF 7 1000 1000 218 2 0 9 7 Qh TN NY PG 16 d d'=true by kernel_rfl)
noncomputable def Qg:List V:=[z17,Z4,z5,Z8,z14,Zg,z14,Zq,z0,Z4,z0,Z8,z3,Z21,z1,Z21,z1,Z17,z1,Z1g]
noncomputable def PE:List V:=(pu1 14 [z3,Z17] Qg)
noncomputable def TM:List V:=[Zf,Ze]
noncomputable def NW:List (Nat×FO):=[(8,bk 2 [z3,Z17])]
noncomputable def ad7:Fact:=fD 2 0 10 7 20 Qg TM NW PE 16
theorem ZK (w0:World):bg Tryz.prog T w0 7 218 ad7:=aX hT (hF w0) ⟨_,Tryz.func218,by kernel_rfl,rfl⟩ (show gu 7 2 10 7 16 NW PE=true by kernel_rfl) (show fQ T FF 7 1000 1000 218 2 0 10 7 Qg TM NW PE 16=true by kernel_rfl) (fun d d'=>show fP T FF 7 1000 1000 218 2 0 10 7 Qg TM NW PE 16 d d'=true by kernel_rfl)
noncomputable def Qe:List V:=[z17,Z4,z5,Z8,z14,Zg,z14,Zq,z0,Z4,z0,Z8,z3,Z21,z3,Z17,z1,Z21,z1,Z17,z1,Z1g]
noncomputable def Pz:List V:=(pu1 16 [z3,Z1g] Qe)
noncomputable def TL:List V:=[Zm,Ze]
noncomputable def NV:List (Nat×FO):=[(8,bk 2 [z3,Z1g])]
noncomputable def ad6:Fact:=fD 2 0 11 7 22 Qe TL NV Pz 16
theorem ZJ (w0:World):bg Tryz.prog T w0 7 218 ad6:=aX hT (hF w0) ⟨_,Tryz.func218,by kernel_rfl,rfl⟩ (show gu 7 2 11 7 16 NV Pz=true by kernel_rfl) (show fQ T FF 7 1000 1000 218 2 0 11 7 Qe TL NV Pz 16=true by kernel_rfl) (fun d d'=>show fP T FF 7 1000 1000 218 2 0 11 7 Qe TL NV Pz 16 d d'=true by kernel_rfl)
noncomputable def Qd:List V:=[z17,Z4,z5,Z8,z14,Zg,z14,Zq,z0,Z4,z0,Z8,z3,Z21,z3,Z17,z3,Z1g,z1,Z21,z1,Z17,z1,Z1g,z1,Zw,z1,Zt]
noncomputable def Py:List V:=(pu1 18 [z1,Zo] Qd)
noncomputable def TJ:List V:=[Zk,Ze]
noncomputable def NU:List (Nat×FO):=[(8,bk 2 [z1,Zo])]
noncomputable def ad5:Fact:=fD 2 0 14 7 28 Qd TJ NU Py 19
theorem ZI (w0:World):bg Tryz.prog T w0 7 218 ad5:=aX hT (hF w0) ⟨_,Tryz.func218,by kernel_rfl,rfl⟩ (show gu 7 2 14 7 19 NU Py=true by kernel_rfl) (show fQ T FF 7 1000 1000 218 2 0 14 7 Qd TJ NU Py 19=true by kernel_rfl) (fun d d'=>show fP T FF 7 1000 1000 218 2 0 14 7 Qd TJ NU Py 19 d d'=true by kernel_rfl)
noncomputable def Qc:List V:=[z17,Z4,z5,Z8,z14,Zg,z14,Zq,z0,Z4,z0,Z8,z3,Z21,z3,Z17,z3,Z1g,z1,Zw,z1,Z21,z1,Z17,z1,Z1g,z1,Zt,z1,Zo]
noncomputable def Px:List V:=(pu1 2 [z5,Z3i] Qc)
noncomputable def TI:List V:=[Z1,Ze]
noncomputable def NT:List (Nat×FO):=[(8,bk 2 [z5,Z3i])]
noncomputable def ad4:Fact:=fD 2 0 15 7 30 Qc TI NT Px 20
theorem ZH (w0:World):bg Tryz.prog T w0 7 218 ad4:=aX hT (hF w0) ⟨_,Tryz.func218,by kernel_rfl,rfl⟩ (show gu 7 2 15 7 20 NT Px=true by kernel_rfl) (show fQ T FF 7 1000 1000 218 2 0 15 7 Qc TI NT Px 20=true by kernel_rfl) (fun d d'=>show fP T FF 7 1000 1000 218 2 0 15 7 Qc TI NT Px 20 d d'=true by kernel_rfl)
noncomputable def Qb:List V:=[z17,Z4,z5,Z8,z5,Zg,z14,Zq,z14,Zy,z0,Z4,z0,Zg,z3,Z17,z3,Z1g,z3,Zw,z1,Zt,z1,Z17,z1,Z1g,z1,Zw,z1,Zo,z1,Z10]
noncomputable def Pv:List V:=(pu1 4 [z5,Z2t] Qb)
noncomputable def TG:List V:=[Z2,Ze]
noncomputable def NS:List (Nat×FO):=[(8,bk 2 [z5,Z2t])]
noncomputable def ad3:Fact:=fD 2 0 16 7 32 Qb TG NS Pv 21
theorem ZG (w0:World):bg Tryz.prog T w0 7 218 ad3:=aX hT (hF w0) ⟨_,Tryz.func218,by kernel_rfl,rfl⟩ (show gu 7 2 16 7 21 NS Pv=true by kernel_rfl) (show fQ T FF 7 1000 1000 218 2 0 16 7 Qb TG NS Pv 21=true by kernel_rfl) (fun d d'=>show fP T FF 7 1000 1000 218 2 0 16 7 Qb TG NS Pv 21 d d'=true by kernel_rfl)
noncomputable def Qa:List V:=[z17,Z4,z5,Z8,z5,Zg,z5,Zq,z14,Zy,z14,Z13,z0,Z4,z0,Zq,z3,Z1g,z3,Zw,z3,Zt,z1,Zo,z1,Z1g,z1,Zw,z1,Zt,z1,Z10,z1,Zx]
noncomputable def Pq:List V:=(pu1 8 [z5,Z3j] Qa)
noncomputable def TF:List V:=[Z7,Ze]
noncomputable def NR:List (Nat×FO):=[(8,bk 2 [z5,Z3j])]
noncomputable def adZ:Fact:=fD 2 0 17 7 34 Qa TF NR Pq 22
theorem ZF (w0:World):bg Tryz.prog T w0 7 218 adZ:=aX hT (hF w0) ⟨_,Tryz.func218,by kernel_rfl,rfl⟩ (show gu 7 2 17 7 22 NR Pq=true by kernel_rfl) (show fQ T FF 7 1000 1000 218 2 0 17 7 Qa TF NR Pq 22=true by kernel_rfl) (fun d d'=>show fP T FF 7 1000 1000 218 2 0 17 7 Qa TF NR Pq 22 d d'=true by kernel_rfl)
noncomputable def Ho:List V:=[z17,Z4,z5,Z8,z5,Zg,z5,Zq,z5,Zy,z14,Z13,z14,Z22,z0,Z4,z0,Zq,z3,Zw,z3,Zt,z3,Zo,z1,Z10,z1,Zw,z1,Zt,z1,Zo,z1,Zx,z1,Z18,z20,Zz]
noncomputable def GL:List V:=(pu1 14 [z0,Z8] Ho)
noncomputable def KL:List V:=[Zf,Ze]
noncomputable def FH:List (Nat×FO):=[(8,bk 2 [z0,Z8])]
noncomputable def WE:Fact:=fD 2 0 19 7 38 Ho KL FH GL 23
theorem WC (w0:World):bg Tryz.prog T w0 7 218 WE:=aX hT (hF w0) ⟨_,Tryz.func218,by kernel_rfl,rfl⟩ (show gu 7 2 19 7 23 FH GL=true by kernel_rfl) (show fQ T FF 7 1000 1000 218 2 0 19 7 Ho KL FH GL 23=true by kernel_rfl) (fun d d'=>show fP T FF 7 1000 1000 218 2 0 19 7 Ho KL FH GL 23 d d'=true by kernel_rfl)
noncomputable def Hl:List V:=[z17,Z4,z5,Z8,z5,Zg,z5,Zq,z5,Zy,z14,Z13,z14,Z22,z0,Z8,z0,Z4,z0,Zq,z3,Zw,z3,Zt,z3,Zo,z1,Z10,z1,Zw,z1,Zt,z1,Zo,z1,Zx,z1,Z18,z20,Zz]
noncomputable def GK:List V:=(pu1 16 [z0,Zg] Hl)
noncomputable def KJ:List V:=[Zm,Ze]
noncomputable def FD:List (Nat×FO):=[(8,bk 2 [z0,Zg])]
noncomputable def WB:Fact:=fD 2 0 20 7 40 Hl KJ FD GK 23
theorem WA (w0:World):bg Tryz.prog T w0 7 218 WB:=aX hT (hF w0) ⟨_,Tryz.func218,by kernel_rfl,rfl⟩ (show gu 7 2 20 7 23 FD GK=true by kernel_rfl) (show fQ T FF 7 1000 1000 218 2 0 20 7 Hl KJ FD GK 23=true by kernel_rfl) (fun d d'=>show fP T FF 7 1000 1000 218 2 0 20 7 Hl KJ FD GK 23 d d'=true by kernel_rfl)
noncomputable def Hg:List V:=[z17,Z4,z5,Z8,z5,Zg,z5,Zq,z5,Zy,z14,Z13,z14,Z22,z0,Z8,z0,Zg,z0,Z4,z0,Zq,z3,Zw,z3,Zt,z3,Zo,z1,Z10,z1,Zw,z1,Zt,z1,Zo,z1,Zx,z1,Z18,z20,Zz]
noncomputable def GI:List V:=(pu1 22 [z0,Zy] Hg)
noncomputable def KI:List V:=[Z1d,Ze]
noncomputable def FB:List (Nat×FO):=[(8,bk 2 [z0,Zy])]
noncomputable def Wy:Fact:=fD 2 0 21 7 42 Hg KI FB GI 23
theorem Wx (w0:World):bg Tryz.prog T w0 7 218 Wy:=aX hT (hF w0) ⟨_,Tryz.func218,by kernel_rfl,rfl⟩ (show gu 7 2 21 7 23 FB GI=true by kernel_rfl) (show fQ T FF 7 1000 1000 218 2 0 21 7 Hg KI FB GI 23=true by kernel_rfl) (fun d d'=>show fP T FF 7 1000 1000 218 2 0 21 7 Hg KI FB GI 23 d d'=true by kernel_rfl)
noncomputable def Hf:List V:=[z17,Z4,z5,Z8,z5,Zg,z5,Zq,z5,Zy,z14,Z13,z14,Z22,z0,Z8,z0,Zg,z0,Z4,z0,Zq,z0,Zy,z3,Zw,z3,Zt,z3,Zo,z1,Z10,z1,Zw,z1,Zt,z1,Zo,z1,Zx,z1,Z18,z20,Zz]
noncomputable def GH:List V:=(pu1 24 [z3,Z10] Hf)
noncomputable def KH:List V:=[Zi,Ze]
noncomputable def Fz:List (Nat×FO):=[(8,bk 2 [z3,Z10])]
noncomputable def Wv:Fact:=fD 2 0 22 7 44 Hf KH Fz GH 23
theorem Wu (w0:World):bg Tryz.prog T w0 7 218 Wv:=aX hT (hF w0) ⟨_,Tryz.func218,by kernel_rfl,rfl⟩ (show gu 7 2 22 7 23 Fz GH=true by kernel_rfl) (show fQ T FF 7 1000 1000 218 2 0 22 7 Hf KH Fz GH 23=true by kernel_rfl) (fun d d'=>show fP T FF 7 1000 1000 218 2 0 22 7 Hf KH Fz GH 23 d d'=true by kernel_rfl)
noncomputable def He:List V:=[z17,Z4,z5,Z8,z5,Zg,z5,Zq,z5,Zy,z14,Z13,z14,Z22,z0,Z8,z0,Zg,z0,Z4,z0,Zq,z0,Zy,z3,Zw,z3,Zt,z3,Zo,z3,Z10,z1,Zw,z1,Zt,z1,Zo,z1,Z10,z1,Zx,z1,Z18,z20,Zz]
noncomputable def Gz:List V:=(pu1 32 [z3,Zx] He)
noncomputable def KG:List V:=[Zp,Ze]
noncomputable def Fv:List (Nat×FO):=[(8,bk 2 [z3,Zx])]
noncomputable def Ws:Fact:=fD 2 0 23 7 46 He KG Fv Gz 23
theorem Wq (w0:World):bg Tryz.prog T w0 7 218 Ws:=aX hT (hF w0) ⟨_,Tryz.func218,by kernel_rfl,rfl⟩ (show gu 7 2 23 7 23 Fv Gz=true by kernel_rfl) (show fQ T FF 7 1000 1000 218 2 0 23 7 He KG Fv Gz 23=true by kernel_rfl) (fun d d'=>show fP T FF 7 1000 1000 218 2 0 23 7 He KG Fv Gz 23 d d'=true by kernel_rfl)
noncomputable def G9:List V:=[z17,Z4,z5,Z8,z5,Zg,z5,Zq,z5,Zy,z14,Z13,z14,Z22,z0,Z8,z0,Zg,z0,Z4,z0,Zq,z0,Zy,z3,Zw,z3,Zt,z3,Zo,z3,Z10,z3,Zx,z1,Zw,z1,Zt,z1,Zo,z1,Z10,z1,Zx,z1,Z18,z20,Zz]
noncomputable def Gy:List V:=(pu1 34 [z3,Z18] G9)
noncomputable def KF:List V:=[Z11,Ze]
noncomputable def Fq:List (Nat×FO):=[(8,bk 2 [z3,Z18])]
noncomputable def Wp:Fact:=fD 2 0 24 7 48 G9 KF Fq Gy 23
theorem Wn (w0:World):bg Tryz.prog T w0 7 218 Wp:=aX hT (hF w0) ⟨_,Tryz.func218,by kernel_rfl,rfl⟩ (show gu 7 2 24 7 23 Fq Gy=true by kernel_rfl) (show fQ T FF 7 1000 1000 218 2 0 24 7 G9 KF Fq Gy 23=true by kernel_rfl) (fun d d'=>show fP T FF 7 1000 1000 218 2 0 24 7 G9 KF Fq Gy 23 d d'=true by kernel_rfl)
noncomputable def G8:List V:=[z17,Z4,z5,Z8,z5,Zg,z5,Zq,z5,Zy,z14,Z13,z14,Z22,z0,Z8,z0,Zg,z0,Z4,z0,Zq,z0,Zy,z3,Zw,z3,Zt,z3,Zo,z3,Z10,z3,Zx,z3,Z18,z1,Zw,z1,Zt,z1,Zo,z1,Z10,z1,Zx,z1,Z18,z20,Zz]
noncomputable def Gx:List V:=(pu1 2 [z5,Z1h] G8)
noncomputable def KD:List V:=[Z1,Ze]
noncomputable def Fp:List (Nat×FO):=[(8,bk 2 [z5,Z1h])]
noncomputable def Wj:Fact:=fD 2 0 25 7 50 G8 KD Fp Gx 24
theorem Wi (w0:World):bg Tryz.prog T w0 7 218 Wj:=aX hT (hF w0) ⟨_,Tryz.func218,by kernel_rfl,rfl⟩ (show gu 7 2 25 7 24 Fp Gx=true by kernel_rfl) (show fQ T FF 7 1000 1000 218 2 0 25 7 G8 KD Fp Gx 24=true by kernel_rfl) (fun d d'=>show fP T FF 7 1000 1000 218 2 0 25 7 G8 KD Fp Gx 24 d d'=true by kernel_rfl)
noncomputable def G7:List V:=[z17,Z4,z5,Z8,z5,Zg,z5,Zq,z5,Zy,z5,Z13,z14,Z22,z14,Z2u,z0,Zg,z0,Zq,z0,Z4,z0,Zy,z0,Z13,z3,Zt,z3,Zo,z3,Z10,z3,Zx,z3,Z18,z3,Zz,z1,Zt,z1,Zo,z1,Z10,z1,Zx,z1,Z18,z1,Zz,z20,Z4x]
noncomputable def Gw:List V:=(pu1 0 [z21,.aj] G7)
noncomputable def KC:List V:=[Z0,Ze]
noncomputable def Fj:List (Nat×FO):=[(8,bk 2 [z21,.aj])]
noncomputable def Wh:Fact:=fD 2 0 26 7 52 G7 KC Fj Gw 24
theorem V9 (w0:World):bg Tryz.prog T w0 7 218 Wh:=aX hT (hF w0) ⟨_,Tryz.func218,by kernel_rfl,rfl⟩ (show gu 7 2 26 7 24 Fj Gw=true by kernel_rfl) (show fQ T FF 7 1000 1000 218 2 0 26 7 G7 KC Fj Gw 24=true by kernel_rfl) (fun d d'=>show fP T FF 7 1000 1000 218 2 0 26 7 G7 KC Fj Gw 24 d d'=true by kernel_rfl)
noncomputable def G6:List V:=[z21,.aj,z17,Z4,z5,Z8,z5,Zg,z5,Zq,z5,Zy,z5,Z13,z14,Z22,z14,Z2u,z0,Zg,z0,Zq,z0,Z4,z0,Zy,z0,Z13,z3,Zt,z3,Zo,z3,Z10,z3,Zx,z3,Z18,z3,Zz,z1,Zt,z1,Zo,z1,Z10,z1,Zx,z1,Z18,z1,Zz,z20,Z4x]
noncomputable def Gv:List V:=(pu1 40 [z18,Z3z] G6)
noncomputable def KA:List V:=[Z36,Ze]
noncomputable def Fh:List (Nat×FO):=[(8,bk 2 [z18,Z3z])]
noncomputable def V8:Fact:=fD 2 0 27 7 54 G6 KA Fh Gv 25
theorem V7 (w0:World):bg Tryz.prog T w0 7 218 V8:=aX hT (hF w0) ⟨_,Tryz.func218,by kernel_rfl,rfl⟩ (show gu 7 2 27 7 25 Fh Gv=true by kernel_rfl) (show fQ T FF 7 1000 1000 218 2 0 27 7 G6 KA Fh Gv 25=true by kernel_rfl) (fun d d'=>show fP T FF 7 1000 1000 218 2 0 27 7 G6 KA Fh Gv 25 d d'=true by kernel_rfl)
noncomputable def G5:List V:=[z21,.aj,z17,Z4,z5,Z8,z5,Zg,z5,Zq,z5,Zy,z5,Z13,z14,Z22,z14,Z2u,z0,Zg,z0,Zq,z0,Z4,z0,Zy,z0,Z13,z3,Zt,z3,Zo,z3,Z10,z3,Zx,z3,Z18,z3,Zz,z18,Z4x,z1,Zt,z1,Zo,z1,Z10,z1,Zx,z1,Z18,z1,Zz,z20,Z3z]
noncomputable def Gu:List V:=(pu1 18 [z0,Z8] G5)
noncomputable def Kz:List V:=[Zk,Ze]
noncomputable def Fg:List (Nat×FO):=[(8,bk 2 [z0,Z8])]
noncomputable def V6:Fact:=fD 2 0 28 7 56 G5 Kz Fg Gu 25
theorem V5 (w0:World):bg Tryz.prog T w0 7 218 V6:=aX hT (hF w0) ⟨_,Tryz.func218,by kernel_rfl,rfl⟩ (show gu 7 2 28 7 25 Fg Gu=true by kernel_rfl) (show fQ T FF 7 1000 1000 218 2 0 28 7 G5 Kz Fg Gu 25=true by kernel_rfl) (fun d d'=>show fP T FF 7 1000 1000 218 2 0 28 7 G5 Kz Fg Gu 25 d d'=true by kernel_rfl)
noncomputable def GZ:List V:=[z21,.aj,z17,Z4,z5,Z8,z5,Zg,z5,Zq,z5,Zy,z5,Z13,z14,Z22,z14,Z2u,z0,Z8,z0,Zg,z0,Zq,z0,Z4,z0,Zy,z0,Z13,z3,Zt,z3,Zo,z3,Z10,z3,Zx,z3,Z18,z3,Zz,z18,Z4x,z1,Zt,z1,Zo,z1,Z10,z1,Zx,z1,Z18,z1,Zz,z20,Z3z]
noncomputable def Gt:List V:=(pu1 44 [z18,Z4n] GZ)
noncomputable def Ky:List V:=[Z2p,Ze]
noncomputable def Fe:List (Nat×FO):=[(8,bk 2 [z18,Z4n])]
noncomputable def V4:Fact:=fD 2 0 29 7 58 GZ Ky Fe Gt 26
theorem V3 (w0:World):bg Tryz.prog T w0 7 218 V4:=aX hT (hF w0) ⟨_,Tryz.func218,by kernel_rfl,rfl⟩ (show gu 7 2 29 7 26 Fe Gt=true by kernel_rfl) (show fQ T FF 7 1000 1000 218 2 0 29 7 GZ Ky Fe Gt 26=true by kernel_rfl) (fun d d'=>show fP T FF 7 1000 1000 218 2 0 29 7 GZ Ky Fe Gt 26 d d'=true by kernel_rfl)
noncomputable def jy:Nat→Option FC:=ovl T 7 218 Ve [aeb,aea,ad9,ad8,ad7,ad6,ad5,ad4,ad3,adZ,WE,WB,Wy,Wv,Ws,Wp,Wj,Wh,V8,V6,V4] FF
set_option maxRecDepth 100000 in
theorem yw (w0:World):dN Tryz.prog T w0 7 jy:=bZ (hF w0) (aJ (ZO w0) (aJ (ZN w0) (aJ (ZM w0) (aJ (ZL w0) (aJ (ZK w0) (aJ (ZJ w0) (aJ (ZI w0) (aJ (ZH w0) (aJ (ZG w0) (aJ (ZF w0) (aJ (WC w0) (aJ (WA w0) (aJ (Wx w0) (aJ (Wu w0) (aJ (Wq w0) (aJ (Wn w0) (aJ (Wi w0) (aJ (V9 w0) (aJ (V7 w0) (aJ (V5 w0) (aJ (V3 w0) Ef))))))))))))))))))))) (ajc w0 7)
end Go.Proofs.YtepmohahglddnaaGreatDoor
