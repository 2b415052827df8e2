/- Sim: facts of function 272 (slices.Insert[[]gameplayer/api.Term,gameplayer/api.Term]). Printed by a program (SimF3.lean). -/
import Derived.Test.YtpmapognbdiahaaGreatDoorSimPqAnd
set_option linter.all false
namespace Go.Proofs.YtpmapognbdiahaaGreatDoor
open Go Go.Sim
noncomputable def Pq:List V:=[z13,Z3,z13,Z7]
noncomputable def OQ:List V:=(pu1 0 [z17,Zg] Pq)
noncomputable def Td:List V:=[Z0,Ze]
noncomputable def Nq:List (Nat×FO):=[(7,bk 2 [z17,Zg])]
noncomputable def adN:Fact:=fU 2 0 2 6 4 Pq Td Nq OQ 11
theorem ZC (w0:WM):bD Tryz.prog T w0 6 272 adN:=aZ hT (hF2 w0) ⟨_,Tryz.func272,by kernel_rfl,rfl⟩ (show gV 6 2 2 6 11 Nq OQ=true by kernel_rfl) (show gG T FF2 6 1000 1000 272 2 0 2 6 Pq Td Nq OQ 11=true by kernel_rfl) (fun d d'=>show gB T FF2 6 1000 1000 272 2 0 2 6 Pq Td Nq OQ 11 d d'=true by kernel_rfl)
noncomputable def Po:List V:=[z17,Z3,z13,Z7,z13,Zg,z0,Z3,z1,Z3h,z1,Z20,z1,Z15]
noncomputable def OO:List V:=(pu1 2 [z5,Z21] Po)
noncomputable def Tc:List V:=[Z1,Ze]
noncomputable def Np:List (Nat×FO):=[(7,bk 2 [z5,Z21])]
noncomputable def adM:Fact:=fU 2 0 7 6 14 Po Tc Np OO 15
theorem ZB (w0:WM):bD Tryz.prog T w0 6 272 adM:=aZ hT (hF2 w0) ⟨_,Tryz.func272,by kernel_rfl,rfl⟩ (show gV 6 2 7 6 15 Np OO=true by kernel_rfl) (show gG T FF2 6 1000 1000 272 2 0 7 6 Po Tc Np OO 15=true by kernel_rfl) (fun d d'=>show gB T FF2 6 1000 1000 272 2 0 7 6 Po Tc Np OO 15 d d'=true by kernel_rfl)
noncomputable def Pn:List V:=[z17,Z3,z5,Z7,z13,Zg,z13,Zp,z0,Z3,z1,Z20,z1,Z15,z1,Z1c]
noncomputable def OM:List V:=(pu1 10 [z0,Z7] Pn)
noncomputable def S9:List V:=[Z6,Ze]
noncomputable def Nl:List (Nat×FO):=[(7,bk 2 [z0,Z7])]
noncomputable def adL:Fact:=fU 2 0 8 6 16 Pn S9 Nl OM 15
theorem ZA (w0:WM):bD Tryz.prog T w0 6 272 adL:=aZ hT (hF2 w0) ⟨_,Tryz.func272,by kernel_rfl,rfl⟩ (show gV 6 2 8 6 15 Nl OM=true by kernel_rfl) (show gG T FF2 6 1000 1000 272 2 0 8 6 Pn S9 Nl OM 15=true by kernel_rfl) (fun d d'=>show gB T FF2 6 1000 1000 272 2 0 8 6 Pn S9 Nl OM 15 d d'=true by kernel_rfl)
noncomputable def Pm:List V:=[z17,Z3,z5,Z7,z13,Zg,z13,Zp,z0,Z3,z0,Z7,z1,Z20,z1,Z15,z1,Z1c]
noncomputable def OL:List V:=(pu1 12 [z3,Z20] Pm)
noncomputable def SY:List V:=[Zb,Ze]
noncomputable def Nk:List (Nat×FO):=[(7,bk 2 [z3,Z20])]
noncomputable def adK:Fact:=fU 2 0 9 6 18 Pm SY Nk OL 15
theorem YZ (w0:WM):bD Tryz.prog T w0 6 272 adK:=aZ hT (hF2 w0) ⟨_,Tryz.func272,by kernel_rfl,rfl⟩ (show gV 6 2 9 6 15 Nk OL=true by kernel_rfl) (show gG T FF2 6 1000 1000 272 2 0 9 6 Pm SY Nk OL 15=true by kernel_rfl) (fun d d'=>show gB T FF2 6 1000 1000 272 2 0 9 6 Pm SY Nk OL 15 d d'=true by kernel_rfl)
noncomputable def Pj:List V:=[z17,Z3,z5,Z7,z13,Zg,z13,Zp,z0,Z3,z0,Z7,z3,Z20,z1,Z20,z1,Z15,z1,Z1c]
noncomputable def OJ:List V:=(pu1 14 [z3,Z15] Pj)
noncomputable def SX:List V:=[Zf,Ze]
noncomputable def Nj:List (Nat×FO):=[(7,bk 2 [z3,Z15])]
noncomputable def adJ:Fact:=fU 2 0 10 6 20 Pj SX Nj OJ 15
theorem YX (w0:WM):bD Tryz.prog T w0 6 272 adJ:=aZ hT (hF2 w0) ⟨_,Tryz.func272,by kernel_rfl,rfl⟩ (show gV 6 2 10 6 15 Nj OJ=true by kernel_rfl) (show gG T FF2 6 1000 1000 272 2 0 10 6 Pj SX Nj OJ 15=true by kernel_rfl) (fun d d'=>show gB T FF2 6 1000 1000 272 2 0 10 6 Pj SX Nj OJ 15 d d'=true by kernel_rfl)
noncomputable def Ph:List V:=[z17,Z3,z5,Z7,z13,Zg,z13,Zp,z0,Z3,z0,Z7,z3,Z20,z3,Z15,z1,Z20,z1,Z15,z1,Z1c]
noncomputable def OI:List V:=(pu1 16 [z3,Z1c] Ph)
noncomputable def SS:List V:=[Zo,Ze]
noncomputable def Nh:List (Nat×FO):=[(7,bk 2 [z3,Z1c])]
noncomputable def adI:Fact:=fU 2 0 11 6 22 Ph SS Nh OI 15
theorem YW (w0:WM):bD Tryz.prog T w0 6 272 adI:=aZ hT (hF2 w0) ⟨_,Tryz.func272,by kernel_rfl,rfl⟩ (show gV 6 2 11 6 15 Nh OI=true by kernel_rfl) (show gG T FF2 6 1000 1000 272 2 0 11 6 Ph SS Nh OI 15=true by kernel_rfl) (fun d d'=>show gB T FF2 6 1000 1000 272 2 0 11 6 Ph SS Nh OI 15 d d'=true by kernel_rfl)
noncomputable def Pg:List V:=[z17,Z3,z5,Z7,z13,Zg,z13,Zp,z0,Z3,z0,Z7,z3,Z20,z3,Z15,z3,Z1c,z1,Z20,z1,Z15,z1,Z1c,z1,Zw,z1,Zt]
noncomputable def OH:List V:=(pu1 18 [z1,Zm] Pg)
noncomputable def SQ:List V:=[Zk,Ze]
noncomputable def Nc:List (Nat×FO):=[(7,bk 2 [z1,Zm])]
noncomputable def adH:Fact:=fU 2 0 14 6 28 Pg SQ Nc OH 18
theorem YV (w0:WM):bD Tryz.prog T w0 6 272 adH:=aZ hT (hF2 w0) ⟨_,Tryz.func272,by kernel_rfl,rfl⟩ (show gV 6 2 14 6 18 Nc OH=true by kernel_rfl) (show gG T FF2 6 1000 1000 272 2 0 14 6 Pg SQ Nc OH 18=true by kernel_rfl) (fun d d'=>show gB T FF2 6 1000 1000 272 2 0 14 6 Pg SQ Nc OH 18 d d'=true by kernel_rfl)
noncomputable def Pe:List V:=[z17,Z3,z5,Z7,z13,Zg,z13,Zp,z0,Z3,z0,Z7,z3,Z20,z3,Z15,z3,Z1c,z1,Zw,z1,Z20,z1,Z15,z1,Z1c,z1,Zt,z1,Zm]
noncomputable def OG:List V:=(pu1 2 [z5,Z3i] Pe)
noncomputable def SN:List V:=[Z1,Ze]
noncomputable def Nb:List (Nat×FO):=[(7,bk 2 [z5,Z3i])]
noncomputable def adG:Fact:=fU 2 0 15 6 30 Pe SN Nb OG 19
theorem YU (w0:WM):bD Tryz.prog T w0 6 272 adG:=aZ hT (hF2 w0) ⟨_,Tryz.func272,by kernel_rfl,rfl⟩ (show gV 6 2 15 6 19 Nb OG=true by kernel_rfl) (show gG T FF2 6 1000 1000 272 2 0 15 6 Pe SN Nb OG 19=true by kernel_rfl) (fun d d'=>show gB T FF2 6 1000 1000 272 2 0 15 6 Pe SN Nb OG 19 d d'=true by kernel_rfl)
noncomputable def O9:List V:=[z17,Z3,z5,Z7,z5,Zg,z13,Zp,z13,Zy,z0,Z3,z0,Zg,z3,Z15,z3,Z1c,z3,Zw,z1,Zt,z1,Z15,z1,Z1c,z1,Zw,z1,Zm,z1,Z10]
noncomputable def OE:List V:=(pu1 4 [z5,Z2t] O9)
noncomputable def SL:List V:=[Z2,Ze]
noncomputable def Na:List (Nat×FO):=[(7,bk 2 [z5,Z2t])]
noncomputable def adF:Fact:=fU 2 0 16 6 32 O9 SL Na OE 20
theorem YT (w0:WM):bD Tryz.prog T w0 6 272 adF:=aZ hT (hF2 w0) ⟨_,Tryz.func272,by kernel_rfl,rfl⟩ (show gV 6 2 16 6 20 Na OE=true by kernel_rfl) (show gG T FF2 6 1000 1000 272 2 0 16 6 O9 SL Na OE 20=true by kernel_rfl) (fun d d'=>show gB T FF2 6 1000 1000 272 2 0 16 6 O9 SL Na OE 20 d d'=true by kernel_rfl)
noncomputable def O8:List V:=[z17,Z3,z5,Z7,z5,Zg,z5,Zp,z13,Zy,z13,Z13,z0,Z3,z0,Zp,z3,Z1c,z3,Zw,z3,Zt,z1,Zm,z1,Z1c,z1,Zw,z1,Zt,z1,Z10,z1,Zx]
noncomputable def OD:List V:=(pu1 8 [z5,Z3j] O8)
noncomputable def SI:List V:=[Z8,Ze]
noncomputable def MZ:List (Nat×FO):=[(7,bk 2 [z5,Z3j])]
noncomputable def adE:Fact:=fU 2 0 17 6 34 O8 SI MZ OD 21
theorem YS (w0:WM):bD Tryz.prog T w0 6 272 adE:=aZ hT (hF2 w0) ⟨_,Tryz.func272,by kernel_rfl,rfl⟩ (show gV 6 2 17 6 21 MZ OD=true by kernel_rfl) (show gG T FF2 6 1000 1000 272 2 0 17 6 O8 SI MZ OD 21=true by kernel_rfl) (fun d d'=>show gB T FF2 6 1000 1000 272 2 0 17 6 O8 SI MZ OD 21 d d'=true by kernel_rfl)
noncomputable def Gm:List V:=[z17,Z3,z5,Z7,z5,Zg,z5,Zp,z5,Zy,z13,Z13,z13,Z21,z0,Z3,z0,Zp,z3,Zw,z3,Zt,z3,Zm,z1,Z10,z1,Zw,z1,Zt,z1,Zm,z1,Zx,z1,Z16,z20,Zz]
noncomputable def FU:List V:=(pu1 14 [z0,Z7] Gm)
noncomputable def JX:List V:=[Zf,Ze]
noncomputable def EU:List (Nat×FO):=[(7,bk 2 [z0,Z7])]
noncomputable def V6:Fact:=fU 2 0 19 6 38 Gm JX EU FU 22
theorem V5 (w0:WM):bD Tryz.prog T w0 6 272 V6:=aZ hT (hF2 w0) ⟨_,Tryz.func272,by kernel_rfl,rfl⟩ (show gV 6 2 19 6 22 EU FU=true by kernel_rfl) (show gG T FF2 6 1000 1000 272 2 0 19 6 Gm JX EU FU 22=true by kernel_rfl) (fun d d'=>show gB T FF2 6 1000 1000 272 2 0 19 6 Gm JX EU FU 22 d d'=true by kernel_rfl)
noncomputable def Gl:List V:=[z17,Z3,z5,Z7,z5,Zg,z5,Zp,z5,Zy,z13,Z13,z13,Z21,z0,Z7,z0,Z3,z0,Zp,z3,Zw,z3,Zt,z3,Zm,z1,Z10,z1,Zw,z1,Zt,z1,Zm,z1,Zx,z1,Z16,z20,Zz]
noncomputable def FQ:List V:=(pu1 16 [z0,Zg] Gl)
noncomputable def JW:List V:=[Zo,Ze]
noncomputable def ET:List (Nat×FO):=[(7,bk 2 [z0,Zg])]
noncomputable def V4:Fact:=fU 2 0 20 6 40 Gl JW ET FQ 22
theorem V3 (w0:WM):bD Tryz.prog T w0 6 272 V4:=aZ hT (hF2 w0) ⟨_,Tryz.func272,by kernel_rfl,rfl⟩ (show gV 6 2 20 6 22 ET FQ=true by kernel_rfl) (show gG T FF2 6 1000 1000 272 2 0 20 6 Gl JW ET FQ 22=true by kernel_rfl) (fun d d'=>show gB T FF2 6 1000 1000 272 2 0 20 6 Gl JW ET FQ 22 d d'=true by kernel_rfl)
noncomputable def Gj:List V:=[z17,Z3,z5,Z7,z5,Zg,z5,Zp,z5,Zy,z13,Z13,z13,Z21,z0,Z7,z0,Zg,z0,Z3,z0,Zp,z3,Zw,z3,Zt,z3,Zm,z1,Z10,z1,Zw,z1,Zt,z1,Zm,z1,Zx,z1,Z16,z20,Zz]
noncomputable def FP:List V:=(pu1 22 [z0,Zy] Gj)
noncomputable def JV:List V:=[Z1l,Ze]
noncomputable def ES:List (Nat×FO):=[(7,bk 2 [z0,Zy])]
noncomputable def VZ:Fact:=fU 2 0 21 6 42 Gj JV ES FP 22
theorem VY (w0:WM):bD Tryz.prog T w0 6 272 VZ:=aZ hT (hF2 w0) ⟨_,Tryz.func272,by kernel_rfl,rfl⟩ (show gV 6 2 21 6 22 ES FP=true by kernel_rfl) (show gG T FF2 6 1000 1000 272 2 0 21 6 Gj JV ES FP 22=true by kernel_rfl) (fun d d'=>show gB T FF2 6 1000 1000 272 2 0 21 6 Gj JV ES FP 22 d d'=true by kernel_rfl)
noncomputable def Gi:List V:=[z17,Z3,z5,Z7,z5,Zg,z5,Zp,z5,Zy,z13,Z13,z13,Z21,z0,Z7,z0,Zg,z0,Z3,z0,Zp,z0,Zy,z3,Zw,z3,Zt,z3,Zm,z1,Z10,z1,Zw,z1,Zt,z1,Zm,z1,Zx,z1,Z16,z20,Zz]
noncomputable def FN:List V:=(pu1 24 [z3,Z10] Gi)
noncomputable def JU:List V:=[Zi,Ze]
noncomputable def ER:List (Nat×FO):=[(7,bk 2 [z3,Z10])]
noncomputable def VX:Fact:=fU 2 0 22 6 44 Gi JU ER FN 22
theorem VW (w0:WM):bD Tryz.prog T w0 6 272 VX:=aZ hT (hF2 w0) ⟨_,Tryz.func272,by kernel_rfl,rfl⟩ (show gV 6 2 22 6 22 ER FN=true by kernel_rfl) (show gG T FF2 6 1000 1000 272 2 0 22 6 Gi JU ER FN 22=true by kernel_rfl) (fun d d'=>show gB T FF2 6 1000 1000 272 2 0 22 6 Gi JU ER FN 22 d d'=true by kernel_rfl)
noncomputable def Gg:List V:=[z17,Z3,z5,Z7,z5,Zg,z5,Zp,z5,Zy,z13,Z13,z13,Z21,z0,Z7,z0,Zg,z0,Z3,z0,Zp,z0,Zy,z3,Zw,z3,Zt,z3,Zm,z3,Z10,z1,Zw,z1,Zt,z1,Zm,z1,Z10,z1,Zx,z1,Z16,z20,Zz]
noncomputable def FM:List V:=(pu1 32 [z3,Zx] Gg)
noncomputable def JR:List V:=[Zq,Ze]
noncomputable def EP:List (Nat×FO):=[(7,bk 2 [z3,Zx])]
noncomputable def VU:Fact:=fU 2 0 23 6 46 Gg JR EP FM 22
theorem VT (w0:WM):bD Tryz.prog T w0 6 272 VU:=aZ hT (hF2 w0) ⟨_,Tryz.func272,by kernel_rfl,rfl⟩ (show gV 6 2 23 6 22 EP FM=true by kernel_rfl) (show gG T FF2 6 1000 1000 272 2 0 23 6 Gg JR EP FM 22=true by kernel_rfl) (fun d d'=>show gB T FF2 6 1000 1000 272 2 0 23 6 Gg JR EP FM 22 d d'=true by kernel_rfl)
noncomputable def Gf:List V:=[z17,Z3,z5,Z7,z5,Zg,z5,Zp,z5,Zy,z13,Z13,z13,Z21,z0,Z7,z0,Zg,z0,Z3,z0,Zp,z0,Zy,z3,Zw,z3,Zt,z3,Zm,z3,Z10,z3,Zx,z1,Zw,z1,Zt,z1,Zm,z1,Z10,z1,Zx,z1,Z16,z20,Zz]
noncomputable def FK:List V:=(pu1 34 [z3,Z16] Gf)
noncomputable def JQ:List V:=[Z11,Ze]
noncomputable def EO:List (Nat×FO):=[(7,bk 2 [z3,Z16])]
noncomputable def VR:Fact:=fU 2 0 24 6 48 Gf JQ EO FK 22
theorem VQ (w0:WM):bD Tryz.prog T w0 6 272 VR:=aZ hT (hF2 w0) ⟨_,Tryz.func272,by kernel_rfl,rfl⟩ (show gV 6 2 24 6 22 EO FK=true by kernel_rfl) (show gG T FF2 6 1000 1000 272 2 0 24 6 Gf JQ EO FK 22=true by kernel_rfl) (fun d d'=>show gB T FF2 6 1000 1000 272 2 0 24 6 Gf JQ EO FK 22 d d'=true by kernel_rfl)
noncomputable def F9:List V:=[z17,Z3,z5,Z7,z5,Zg,z5,Zp,z5,Zy,z13,Z13,z13,Z21,z0,Z7,z0,Zg,z0,Z3,z0,Zp,z0,Zy,z3,Zw,z3,Zt,z3,Zm,z3,Z10,z3,Zx,z3,Z16,z1,Zw,z1,Zt,z1,Zm,z1,Z10,z1,Zx,z1,Z16,z20,Zz]
noncomputable def FI:List V:=(pu1 2 [z5,Z1d] F9)
noncomputable def JO:List V:=[Z1,Ze]
noncomputable def EN:List (Nat×FO):=[(7,bk 2 [z5,Z1d])]
noncomputable def VP:Fact:=fU 2 0 25 6 50 F9 JO EN FI 23
theorem VO (w0:WM):bD Tryz.prog T w0 6 272 VP:=aZ hT (hF2 w0) ⟨_,Tryz.func272,by kernel_rfl,rfl⟩ (show gV 6 2 25 6 23 EN FI=true by kernel_rfl) (show gG T FF2 6 1000 1000 272 2 0 25 6 F9 JO EN FI 23=true by kernel_rfl) (fun d d'=>show gB T FF2 6 1000 1000 272 2 0 25 6 F9 JO EN FI 23 d d'=true by kernel_rfl)
noncomputable def F8:List V:=[z17,Z3,z5,Z7,z5,Zg,z5,Zp,z5,Zy,z5,Z13,z13,Z21,z13,Z2u,z0,Zg,z0,Zp,z0,Z3,z0,Zy,z0,Z13,z3,Zt,z3,Zm,z3,Z10,z3,Zx,z3,Z16,z3,Zz,z1,Zt,z1,Zm,z1,Z10,z1,Zx,z1,Z16,z1,Zz,z20,Z4w]
noncomputable def FH:List V:=(pu1 0 [z21,.aj] F8)
noncomputable def JM:List V:=[Z0,Ze]
noncomputable def EM:List (Nat×FO):=[(7,bk 2 [z21,.aj])]
noncomputable def VN:Fact:=fU 2 0 26 6 52 F8 JM EM FH 23
theorem VL (w0:WM):bD Tryz.prog T w0 6 272 VN:=aZ hT (hF2 w0) ⟨_,Tryz.func272,by kernel_rfl,rfl⟩ (show gV 6 2 26 6 23 EM FH=true by kernel_rfl) (show gG T FF2 6 1000 1000 272 2 0 26 6 F8 JM EM FH 23=true by kernel_rfl) (fun d d'=>show gB T FF2 6 1000 1000 272 2 0 26 6 F8 JM EM FH 23 d d'=true by kernel_rfl)
noncomputable def F7:List V:=[z21,.aj,z17,Z3,z5,Z7,z5,Zg,z5,Zp,z5,Zy,z5,Z13,z13,Z21,z13,Z2u,z0,Zg,z0,Zp,z0,Z3,z0,Zy,z0,Z13,z3,Zt,z3,Zm,z3,Z10,z3,Zx,z3,Z16,z3,Zz,z1,Zt,z1,Zm,z1,Z10,z1,Zx,z1,Z16,z1,Zz,z20,Z4w]
noncomputable def FD:List V:=(pu1 40 [z18,Z3x] F7)
noncomputable def JL:List V:=[Z32,Ze]
noncomputable def EL:List (Nat×FO):=[(7,bk 2 [z18,Z3x])]
noncomputable def VK:Fact:=fU 2 0 27 6 54 F7 JL EL FD 24
theorem VJ (w0:WM):bD Tryz.prog T w0 6 272 VK:=aZ hT (hF2 w0) ⟨_,Tryz.func272,by kernel_rfl,rfl⟩ (show gV 6 2 27 6 24 EL FD=true by kernel_rfl) (show gG T FF2 6 1000 1000 272 2 0 27 6 F7 JL EL FD 24=true by kernel_rfl) (fun d d'=>show gB T FF2 6 1000 1000 272 2 0 27 6 F7 JL EL FD 24 d d'=true by kernel_rfl)
noncomputable def F6:List V:=[z21,.aj,z17,Z3,z5,Z7,z5,Zg,z5,Zp,z5,Zy,z5,Z13,z13,Z21,z13,Z2u,z0,Zg,z0,Zp,z0,Z3,z0,Zy,z0,Z13,z3,Zt,z3,Zm,z3,Z10,z3,Zx,z3,Z16,z3,Zz,z18,Z4w,z1,Zt,z1,Zm,z1,Z10,z1,Zx,z1,Z16,z1,Zz,z20,Z3x]
noncomputable def FB:List V:=(pu1 18 [z0,Z7] F6)
noncomputable def JK:List V:=[Zk,Ze]
noncomputable def EK:List (Nat×FO):=[(7,bk 2 [z0,Z7])]
noncomputable def VI:Fact:=fU 2 0 28 6 56 F6 JK EK FB 24
theorem VH (w0:WM):bD Tryz.prog T w0 6 272 VI:=aZ hT (hF2 w0) ⟨_,Tryz.func272,by kernel_rfl,rfl⟩ (show gV 6 2 28 6 24 EK FB=true by kernel_rfl) (show gG T FF2 6 1000 1000 272 2 0 28 6 F6 JK EK FB 24=true by kernel_rfl) (fun d d'=>show gB T FF2 6 1000 1000 272 2 0 28 6 F6 JK EK FB 24 d d'=true by kernel_rfl)
noncomputable def F5:List V:=[z21,.aj,z17,Z3,z5,Z7,z5,Zg,z5,Zp,z5,Zy,z5,Z13,z13,Z21,z13,Z2u,z0,Z7,z0,Zg,z0,Zp,z0,Z3,z0,Zy,z0,Z13,z3,Zt,z3,Zm,z3,Z10,z3,Zx,z3,Z16,z3,Zz,z18,Z4w,z1,Zt,z1,Zm,z1,Z10,z1,Zx,z1,Z16,z1,Zz,z20,Z3x]
noncomputable def Fz:List V:=(pu1 44 [z18,Z4n] F5)
noncomputable def JJ:List V:=[Z2p,Ze]
noncomputable def EJ:List (Nat×FO):=[(7,bk 2 [z18,Z4n])]
noncomputable def VG:Fact:=fU 2 0 29 6 58 F5 JJ EJ Fz 25
theorem VF (w0:WM):bD Tryz.prog T w0 6 272 VG:=aZ hT (hF2 w0) ⟨_,Tryz.func272,by kernel_rfl,rfl⟩ (show gV 6 2 29 6 25 EJ Fz=true by kernel_rfl) (show gG T FF2 6 1000 1000 272 2 0 29 6 F5 JJ EJ Fz 25=true by kernel_rfl) (fun d d'=>show gB T FF2 6 1000 1000 272 2 0 29 6 F5 JJ EJ Fz 25 d d'=true by kernel_rfl)
noncomputable def jL:Nat→Option FC:=ovl T 6 272 UN [adN,adM,adL,adK,adJ,adI,adH,adG,adF,adE,V6,V4,VZ,VX,VU,VR,VP,VN,VK,VI,VG] FF2
set_option maxRecDepth 100000 in
theorem xK (w0:WM):dY Tryz.prog T w0 6 jL:=dD (hF2 w0) (aK (ZC w0) (aK (ZB w0) (aK (ZA w0) (aK (YZ w0) (aK (YX w0) (aK (YW w0) (aK (YV w0) (aK (YU w0) (aK (YT w0) (aK (YS w0) (aK (V5 w0) (aK (V3 w0) (aK (VY w0) (aK (VW w0) (aK (VT w0) (aK (VQ w0) (aK (VO w0) (aK (VL w0) (aK (VJ w0) (aK (VH w0) (aK (VF w0) qm))))))))))))))))))))) (aiV w0 6)
end Go.Proofs.YtpmapognbdiahaaGreatDoor
