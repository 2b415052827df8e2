/- Sim: facts of function 280 (slices.Insert[[]gameplayer/api.Term,gameplayer/api.Term]). Printed by a program (SimF3.lean). -/
import Derived.Test.YthckjidmpbiccaaGreatDoorSimFtOne
import Derived.Test.YthckjidmpbiccaaGreatDoorSimRgAnd
set_option linter.unusedVariables false
set_option linter.unusedSimpArgs false
set_option linter.all false
namespace Go.Proofs.YthckjidmpbiccaaGreatDoor
open Go Go.Sim
noncomputable def QF:List V:=[z14,Z6,z14,Z8]
noncomputable def Qg:List V:=(pu1 0 [z18,Zk] QF)
noncomputable def Ux:List V:=[Z0,Zg]
noncomputable def OG:List (Nat×FO):=[(9,bk 2 [z18,Zk])]
noncomputable def afs:Fact:=fH 2 0 2 8 4 QF Ux OG Qg 13
theorem aaG (w0:World):bg Tryz.prog T w0 8 280 afs:=aX hT (hF w0) ⟨_,Tryz.func280,by kernel_rfl,rfl⟩ (show gI 8 2 2 8 13 OG Qg=true by kernel_rfl) (show gq T FF 8 1000 1000 280 2 0 2 8 QF Ux OG Qg 13=true by kernel_rfl) (fun d d'=>show fZ T FF 8 1000 1000 280 2 0 2 8 QF Ux OG Qg 13 d d'=true by kernel_rfl)
noncomputable def QE:List V:=[z18,Z6,z14,Z8,z14,Zk,z0,Z6,z2,Z3u,z2,Z28,z2,Z1k]
noncomputable def Qe:List V:=(pu1 2 [z5,Z29] QE)
noncomputable def Uw:List V:=[Z1,Zg]
noncomputable def OE:List (Nat×FO):=[(9,bk 2 [z5,Z29])]
noncomputable def afr:Fact:=fH 2 0 7 8 14 QE Uw OE Qe 17
theorem aaF (w0:World):bg Tryz.prog T w0 8 280 afr:=aX hT (hF w0) ⟨_,Tryz.func280,by kernel_rfl,rfl⟩ (show gI 8 2 7 8 17 OE Qe=true by kernel_rfl) (show gq T FF 8 1000 1000 280 2 0 7 8 QE Uw OE Qe 17=true by kernel_rfl) (fun d d'=>show fZ T FF 8 1000 1000 280 2 0 7 8 QE Uw OE Qe 17 d d'=true by kernel_rfl)
noncomputable def QD:List V:=[z18,Z6,z5,Z8,z14,Zk,z14,Zu,z0,Z6,z2,Z28,z2,Z1k,z2,Z1q]
noncomputable def Qd:List V:=(pu1 10 [z0,Z8] QD)
noncomputable def Uu:List V:=[Z4,Zg]
noncomputable def OD:List (Nat×FO):=[(9,bk 2 [z0,Z8])]
noncomputable def afq:Fact:=fH 2 0 8 8 16 QD Uu OD Qd 17
theorem aaE (w0:World):bg Tryz.prog T w0 8 280 afq:=aX hT (hF w0) ⟨_,Tryz.func280,by kernel_rfl,rfl⟩ (show gI 8 2 8 8 17 OD Qd=true by kernel_rfl) (show gq T FF 8 1000 1000 280 2 0 8 8 QD Uu OD Qd 17=true by kernel_rfl) (fun d d'=>show fZ T FF 8 1000 1000 280 2 0 8 8 QD Uu OD Qd 17 d d'=true by kernel_rfl)
noncomputable def QC:List V:=[z18,Z6,z5,Z8,z14,Zk,z14,Zu,z0,Z6,z0,Z8,z2,Z28,z2,Z1k,z2,Z1q]
noncomputable def Qc:List V:=(pu1 12 [z3,Z28] QC)
noncomputable def Ut:List V:=[Z9,Zg]
noncomputable def OB:List (Nat×FO):=[(9,bk 2 [z3,Z28])]
noncomputable def afp:Fact:=fH 2 0 9 8 18 QC Ut OB Qc 17
theorem aaD (w0:World):bg Tryz.prog T w0 8 280 afp:=aX hT (hF w0) ⟨_,Tryz.func280,by kernel_rfl,rfl⟩ (show gI 8 2 9 8 17 OB Qc=true by kernel_rfl) (show gq T FF 8 1000 1000 280 2 0 9 8 QC Ut OB Qc 17=true by kernel_rfl) (fun d d'=>show fZ T FF 8 1000 1000 280 2 0 9 8 QC Ut OB Qc 17 d d'=true by kernel_rfl)
noncomputable def QB:List V:=[z18,Z6,z5,Z8,z14,Zk,z14,Zu,z0,Z6,z0,Z8,z3,Z28,z2,Z28,z2,Z1k,z2,Z1q]
noncomputable def Qb:List V:=(pu1 14 [z3,Z1k] QB)
noncomputable def Us:List V:=[Zd,Zg]
noncomputable def OA:List (Nat×FO):=[(9,bk 2 [z3,Z1k])]
noncomputable def afo:Fact:=fH 2 0 10 8 20 QB Us OA Qb 17
theorem aaC (w0:World):bg Tryz.prog T w0 8 280 afo:=aX hT (hF w0) ⟨_,Tryz.func280,by kernel_rfl,rfl⟩ (show gI 8 2 10 8 17 OA Qb=true by kernel_rfl) (show gq T FF 8 1000 1000 280 2 0 10 8 QB Us OA Qb 17=true by kernel_rfl) (fun d d'=>show fZ T FF 8 1000 1000 280 2 0 10 8 QB Us OA Qb 17 d d'=true by kernel_rfl)
noncomputable def QA:List V:=[z18,Z6,z5,Z8,z14,Zk,z14,Zu,z0,Z6,z0,Z8,z3,Z28,z3,Z1k,z2,Z28,z2,Z1k,z2,Z1q]
noncomputable def Qa:List V:=(pu1 16 [z3,Z1q] QA)
noncomputable def Ur:List V:=[Zf,Zg]
noncomputable def Oz:List (Nat×FO):=[(9,bk 2 [z3,Z1q])]
noncomputable def afn:Fact:=fH 2 0 11 8 22 QA Ur Oz Qa 17
theorem aaB (w0:World):bg Tryz.prog T w0 8 280 afn:=aX hT (hF w0) ⟨_,Tryz.func280,by kernel_rfl,rfl⟩ (show gI 8 2 11 8 17 Oz Qa=true by kernel_rfl) (show gq T FF 8 1000 1000 280 2 0 11 8 QA Ur Oz Qa 17=true by kernel_rfl) (fun d d'=>show fZ T FF 8 1000 1000 280 2 0 11 8 QA Ur Oz Qa 17 d d'=true by kernel_rfl)
noncomputable def Qz:List V:=[z18,Z6,z5,Z8,z14,Zk,z14,Zu,z0,Z6,z0,Z8,z3,Z28,z3,Z1k,z3,Z1q,z2,Z28,z2,Z1k,z2,Z1q,z2,Z16,z2,Z13]
noncomputable def P9:List V:=(pu1 18 [z2,Zr] Qz)
noncomputable def Uo:List V:=[Zj,Zg]
noncomputable def Oy:List (Nat×FO):=[(9,bk 2 [z2,Zr])]
noncomputable def afm:Fact:=fH 2 0 14 8 28 Qz Uo Oy P9 20
theorem aaA (w0:World):bg Tryz.prog T w0 8 280 afm:=aX hT (hF w0) ⟨_,Tryz.func280,by kernel_rfl,rfl⟩ (show gI 8 2 14 8 20 Oy P9=true by kernel_rfl) (show gq T FF 8 1000 1000 280 2 0 14 8 Qz Uo Oy P9 20=true by kernel_rfl) (fun d d'=>show fZ T FF 8 1000 1000 280 2 0 14 8 Qz Uo Oy P9 20 d d'=true by kernel_rfl)
noncomputable def Qy:List V:=[z18,Z6,z5,Z8,z14,Zk,z14,Zu,z0,Z6,z0,Z8,z3,Z28,z3,Z1k,z3,Z1q,z2,Z16,z2,Z28,z2,Z1k,z2,Z1q,z2,Z13,z2,Zr]
noncomputable def P8:List V:=(pu1 2 [z5,Z3v] Qy)
noncomputable def Un:List V:=[Z1,Zg]
noncomputable def Ox:List (Nat×FO):=[(9,bk 2 [z5,Z3v])]
noncomputable def afl:Fact:=fH 2 0 15 8 30 Qy Un Ox P8 21
theorem aaz (w0:World):bg Tryz.prog T w0 8 280 afl:=aX hT (hF w0) ⟨_,Tryz.func280,by kernel_rfl,rfl⟩ (show gI 8 2 15 8 21 Ox P8=true by kernel_rfl) (show gq T FF 8 1000 1000 280 2 0 15 8 Qy Un Ox P8 21=true by kernel_rfl) (fun d d'=>show fZ T FF 8 1000 1000 280 2 0 15 8 Qy Un Ox P8 21 d d'=true by kernel_rfl)
noncomputable def Qx:List V:=[z18,Z6,z5,Z8,z5,Zk,z14,Zu,z14,Z18,z0,Z6,z0,Zk,z3,Z1k,z3,Z1q,z3,Z16,z2,Z13,z2,Z1k,z2,Z1q,z2,Z16,z2,Zr,z2,Z1a]
noncomputable def P7:List V:=(pu1 4 [z5,Z3c] Qx)
noncomputable def Um:List V:=[Z2,Zg]
noncomputable def Ov:List (Nat×FO):=[(9,bk 2 [z5,Z3c])]
noncomputable def afk:Fact:=fH 2 0 16 8 32 Qx Um Ov P7 22
theorem aay (w0:World):bg Tryz.prog T w0 8 280 afk:=aX hT (hF w0) ⟨_,Tryz.func280,by kernel_rfl,rfl⟩ (show gI 8 2 16 8 22 Ov P7=true by kernel_rfl) (show gq T FF 8 1000 1000 280 2 0 16 8 Qx Um Ov P7 22=true by kernel_rfl) (fun d d'=>show fZ T FF 8 1000 1000 280 2 0 16 8 Qx Um Ov P7 22 d d'=true by kernel_rfl)
noncomputable def Qw:List V:=[z18,Z6,z5,Z8,z5,Zk,z5,Zu,z14,Z18,z14,Z1h,z0,Z6,z0,Zu,z3,Z1q,z3,Z16,z3,Z13,z2,Zr,z2,Z1q,z2,Z16,z2,Z13,z2,Z1a,z2,Z17]
noncomputable def P6:List V:=(pu1 8 [z5,Z3w] Qw)
noncomputable def Ul:List V:=[Z3,Zg]
noncomputable def Ou:List (Nat×FO):=[(9,bk 2 [z5,Z3w])]
noncomputable def afj:Fact:=fH 2 0 17 8 34 Qw Ul Ou P6 23
theorem aax (w0:World):bg Tryz.prog T w0 8 280 afj:=aX hT (hF w0) ⟨_,Tryz.func280,by kernel_rfl,rfl⟩ (show gI 8 2 17 8 23 Ou P6=true by kernel_rfl) (show gq T FF 8 1000 1000 280 2 0 17 8 Qw Ul Ou P6 23=true by kernel_rfl) (fun d d'=>show fZ T FF 8 1000 1000 280 2 0 17 8 Qw Ul Ou P6 23 d d'=true by kernel_rfl)
noncomputable def Ig:List V:=[z18,Z6,z5,Z8,z5,Zk,z5,Zu,z5,Z18,z14,Z1h,z14,Z29,z0,Z6,z0,Zu,z3,Z16,z3,Z13,z3,Zr,z2,Z1a,z2,Z16,z2,Z13,z2,Zr,z2,Z17,z2,Z1l,z20,Z19]
noncomputable def Ho:List V:=(pu1 14 [z0,Z8] Ig)
noncomputable def LD:List V:=[Zd,Zg]
noncomputable def F6:List (Nat×FO):=[(9,bk 2 [z0,Z8])]
noncomputable def Xt:Fact:=fH 2 0 19 8 38 Ig LD F6 Ho 24
theorem Xr (w0:World):bg Tryz.prog T w0 8 280 Xt:=aX hT (hF w0) ⟨_,Tryz.func280,by kernel_rfl,rfl⟩ (show gI 8 2 19 8 24 F6 Ho=true by kernel_rfl) (show gq T FF 8 1000 1000 280 2 0 19 8 Ig LD F6 Ho 24=true by kernel_rfl) (fun d d'=>show fZ T FF 8 1000 1000 280 2 0 19 8 Ig LD F6 Ho 24 d d'=true by kernel_rfl)
noncomputable def Ie:List V:=[z18,Z6,z5,Z8,z5,Zk,z5,Zu,z5,Z18,z14,Z1h,z14,Z29,z0,Z8,z0,Z6,z0,Zu,z3,Z16,z3,Z13,z3,Zr,z2,Z1a,z2,Z16,z2,Z13,z2,Zr,z2,Z17,z2,Z1l,z20,Z19]
noncomputable def Hl:List V:=(pu1 16 [z0,Zk] Ie)
noncomputable def LC:List V:=[Zf,Zg]
noncomputable def F5:List (Nat×FO):=[(9,bk 2 [z0,Zk])]
noncomputable def Xq:Fact:=fH 2 0 20 8 40 Ie LC F5 Hl 24
theorem Xp (w0:World):bg Tryz.prog T w0 8 280 Xq:=aX hT (hF w0) ⟨_,Tryz.func280,by kernel_rfl,rfl⟩ (show gI 8 2 20 8 24 F5 Hl=true by kernel_rfl) (show gq T FF 8 1000 1000 280 2 0 20 8 Ie LC F5 Hl 24=true by kernel_rfl) (fun d d'=>show fZ T FF 8 1000 1000 280 2 0 20 8 Ie LC F5 Hl 24 d d'=true by kernel_rfl)
noncomputable def Ic:List V:=[z18,Z6,z5,Z8,z5,Zk,z5,Zu,z5,Z18,z14,Z1h,z14,Z29,z0,Z8,z0,Zk,z0,Z6,z0,Zu,z3,Z16,z3,Z13,z3,Zr,z2,Z1a,z2,Z16,z2,Z13,z2,Zr,z2,Z17,z2,Z1l,z20,Z19]
noncomputable def Hg:List V:=(pu1 22 [z0,Z18] Ic)
noncomputable def Lu:List V:=[Zy,Zg]
noncomputable def FZ:List (Nat×FO):=[(9,bk 2 [z0,Z18])]
noncomputable def Xo:Fact:=fH 2 0 21 8 42 Ic Lu FZ Hg 24
theorem Xn (w0:World):bg Tryz.prog T w0 8 280 Xo:=aX hT (hF w0) ⟨_,Tryz.func280,by kernel_rfl,rfl⟩ (show gI 8 2 21 8 24 FZ Hg=true by kernel_rfl) (show gq T FF 8 1000 1000 280 2 0 21 8 Ic Lu FZ Hg 24=true by kernel_rfl) (fun d d'=>show fZ T FF 8 1000 1000 280 2 0 21 8 Ic Lu FZ Hg 24 d d'=true by kernel_rfl)
noncomputable def Ib:List V:=[z18,Z6,z5,Z8,z5,Zk,z5,Zu,z5,Z18,z14,Z1h,z14,Z29,z0,Z8,z0,Zk,z0,Z6,z0,Zu,z0,Z18,z3,Z16,z3,Z13,z3,Zr,z2,Z1a,z2,Z16,z2,Z13,z2,Zr,z2,Z17,z2,Z1l,z20,Z19]
noncomputable def Hf:List V:=(pu1 24 [z3,Z1a] Ib)
noncomputable def Ls:List V:=[Zh,Zg]
noncomputable def FY:List (Nat×FO):=[(9,bk 2 [z3,Z1a])]
noncomputable def Xm:Fact:=fH 2 0 22 8 44 Ib Ls FY Hf 24
theorem Xl (w0:World):bg Tryz.prog T w0 8 280 Xm:=aX hT (hF w0) ⟨_,Tryz.func280,by kernel_rfl,rfl⟩ (show gI 8 2 22 8 24 FY Hf=true by kernel_rfl) (show gq T FF 8 1000 1000 280 2 0 22 8 Ib Ls FY Hf 24=true by kernel_rfl) (fun d d'=>show fZ T FF 8 1000 1000 280 2 0 22 8 Ib Ls FY Hf 24 d d'=true by kernel_rfl)
noncomputable def Ia:List V:=[z18,Z6,z5,Z8,z5,Zk,z5,Zu,z5,Z18,z14,Z1h,z14,Z29,z0,Z8,z0,Zk,z0,Z6,z0,Zu,z0,Z18,z3,Z16,z3,Z13,z3,Zr,z3,Z1a,z2,Z16,z2,Z13,z2,Zr,z2,Z1a,z2,Z17,z2,Z1l,z20,Z19]
noncomputable def He:List V:=(pu1 32 [z3,Z17] Ia)
noncomputable def Lr:List V:=[Zo,Zg]
noncomputable def FX:List (Nat×FO):=[(9,bk 2 [z3,Z17])]
noncomputable def Xk:Fact:=fH 2 0 23 8 46 Ia Lr FX He 24
theorem Xj (w0:World):bg Tryz.prog T w0 8 280 Xk:=aX hT (hF w0) ⟨_,Tryz.func280,by kernel_rfl,rfl⟩ (show gI 8 2 23 8 24 FX He=true by kernel_rfl) (show gq T FF 8 1000 1000 280 2 0 23 8 Ia Lr FX He 24=true by kernel_rfl) (fun d d'=>show fZ T FF 8 1000 1000 280 2 0 23 8 Ia Lr FX He 24 d d'=true by kernel_rfl)
noncomputable def H9:List V:=[z18,Z6,z5,Z8,z5,Zk,z5,Zu,z5,Z18,z14,Z1h,z14,Z29,z0,Z8,z0,Zk,z0,Z6,z0,Zu,z0,Z18,z3,Z16,z3,Z13,z3,Zr,z3,Z1a,z3,Z17,z2,Z16,z2,Z13,z2,Zr,z2,Z1a,z2,Z17,z2,Z1l,z20,Z19]
noncomputable def G9:List V:=(pu1 34 [z3,Z1l] H9)
noncomputable def Lp:List V:=[Z1b,Zg]
noncomputable def FW:List (Nat×FO):=[(9,bk 2 [z3,Z1l])]
noncomputable def Xi:Fact:=fH 2 0 24 8 48 H9 Lp FW G9 24
theorem Xh (w0:World):bg Tryz.prog T w0 8 280 Xi:=aX hT (hF w0) ⟨_,Tryz.func280,by kernel_rfl,rfl⟩ (show gI 8 2 24 8 24 FW G9=true by kernel_rfl) (show gq T FF 8 1000 1000 280 2 0 24 8 H9 Lp FW G9 24=true by kernel_rfl) (fun d d'=>show fZ T FF 8 1000 1000 280 2 0 24 8 H9 Lp FW G9 24 d d'=true by kernel_rfl)
noncomputable def H8:List V:=[z18,Z6,z5,Z8,z5,Zk,z5,Zu,z5,Z18,z14,Z1h,z14,Z29,z0,Z8,z0,Zk,z0,Z6,z0,Zu,z0,Z18,z3,Z16,z3,Z13,z3,Zr,z3,Z1a,z3,Z17,z3,Z1l,z2,Z16,z2,Z13,z2,Zr,z2,Z1a,z2,Z17,z2,Z1l,z20,Z19]
noncomputable def G8:List V:=(pu1 2 [z5,Z1i] H8)
noncomputable def Lm:List V:=[Z1,Zg]
noncomputable def FV:List (Nat×FO):=[(9,bk 2 [z5,Z1i])]
noncomputable def Xg:Fact:=fH 2 0 25 8 50 H8 Lm FV G8 25
theorem Xf (w0:World):bg Tryz.prog T w0 8 280 Xg:=aX hT (hF w0) ⟨_,Tryz.func280,by kernel_rfl,rfl⟩ (show gI 8 2 25 8 25 FV G8=true by kernel_rfl) (show gq T FF 8 1000 1000 280 2 0 25 8 H8 Lm FV G8 25=true by kernel_rfl) (fun d d'=>show fZ T FF 8 1000 1000 280 2 0 25 8 H8 Lm FV G8 25 d d'=true by kernel_rfl)
noncomputable def H7:List V:=[z18,Z6,z5,Z8,z5,Zk,z5,Zu,z5,Z18,z5,Z1h,z14,Z29,z14,Z3d,z0,Zk,z0,Zu,z0,Z6,z0,Z18,z0,Z1h,z3,Z13,z3,Zr,z3,Z1a,z3,Z17,z3,Z1l,z3,Z19,z2,Z13,z2,Zr,z2,Z1a,z2,Z17,z2,Z1l,z2,Z19,z20,Z54]
noncomputable def G7:List V:=(pu1 0 [z23,.aj] H7)
noncomputable def Ll:List V:=[Z0,Zg]
noncomputable def FU:List (Nat×FO):=[(9,bk 2 [z23,.aj])]
noncomputable def Xe:Fact:=fH 2 0 26 8 52 H7 Ll FU G7 25
theorem Xd (w0:World):bg Tryz.prog T w0 8 280 Xe:=aX hT (hF w0) ⟨_,Tryz.func280,by kernel_rfl,rfl⟩ (show gI 8 2 26 8 25 FU G7=true by kernel_rfl) (show gq T FF 8 1000 1000 280 2 0 26 8 H7 Ll FU G7 25=true by kernel_rfl) (fun d d'=>show fZ T FF 8 1000 1000 280 2 0 26 8 H7 Ll FU G7 25 d d'=true by kernel_rfl)
noncomputable def H6:List V:=[z23,.aj,z18,Z6,z5,Z8,z5,Zk,z5,Zu,z5,Z18,z5,Z1h,z14,Z29,z14,Z3d,z0,Zk,z0,Zu,z0,Z6,z0,Z18,z0,Z1h,z3,Z13,z3,Zr,z3,Z1a,z3,Z17,z3,Z1l,z3,Z19,z2,Z13,z2,Zr,z2,Z1a,z2,Z17,z2,Z1l,z2,Z19,z20,Z54]
noncomputable def G6:List V:=(pu1 40 [z19,Z45] H6)
noncomputable def Lj:List V:=[Z3k,Zg]
noncomputable def FQ:List (Nat×FO):=[(9,bk 2 [z19,Z45])]
noncomputable def Xc:Fact:=fH 2 0 27 8 54 H6 Lj FQ G6 26
theorem Xb (w0:World):bg Tryz.prog T w0 8 280 Xc:=aX hT (hF w0) ⟨_,Tryz.func280,by kernel_rfl,rfl⟩ (show gI 8 2 27 8 26 FQ G6=true by kernel_rfl) (show gq T FF 8 1000 1000 280 2 0 27 8 H6 Lj FQ G6 26=true by kernel_rfl) (fun d d'=>show fZ T FF 8 1000 1000 280 2 0 27 8 H6 Lj FQ G6 26 d d'=true by kernel_rfl)
noncomputable def HY:List V:=[z23,.aj,z18,Z6,z5,Z8,z5,Zk,z5,Zu,z5,Z18,z5,Z1h,z14,Z29,z14,Z3d,z0,Zk,z0,Zu,z0,Z6,z0,Z18,z0,Z1h,z3,Z13,z3,Zr,z3,Z1a,z3,Z17,z3,Z1l,z3,Z19,z19,Z54,z2,Z13,z2,Zr,z2,Z1a,z2,Z17,z2,Z1l,z2,Z19,z20,Z45]
noncomputable def G5:List V:=(pu1 18 [z0,Z8] HY)
noncomputable def Lh:List V:=[Zj,Zg]
noncomputable def FP:List (Nat×FO):=[(9,bk 2 [z0,Z8])]
noncomputable def Xa:Fact:=fH 2 0 28 8 56 HY Lh FP G5 26
theorem W9 (w0:World):bg Tryz.prog T w0 8 280 Xa:=aX hT (hF w0) ⟨_,Tryz.func280,by kernel_rfl,rfl⟩ (show gI 8 2 28 8 26 FP G5=true by kernel_rfl) (show gq T FF 8 1000 1000 280 2 0 28 8 HY Lh FP G5 26=true by kernel_rfl) (fun d d'=>show fZ T FF 8 1000 1000 280 2 0 28 8 HY Lh FP G5 26 d d'=true by kernel_rfl)
noncomputable def Hz:List V:=[z23,.aj,z18,Z6,z5,Z8,z5,Zk,z5,Zu,z5,Z18,z5,Z1h,z14,Z29,z14,Z3d,z0,Z8,z0,Zk,z0,Zu,z0,Z6,z0,Z18,z0,Z1h,z3,Z13,z3,Zr,z3,Z1a,z3,Z17,z3,Z1l,z3,Z19,z19,Z54,z2,Z13,z2,Zr,z2,Z1a,z2,Z17,z2,Z1l,z2,Z19,z20,Z45]
noncomputable def GZ:List V:=(pu1 44 [z19,Z4w] Hz)
noncomputable def Le:List V:=[Z35,Zg]
noncomputable def FN:List (Nat×FO):=[(9,bk 2 [z19,Z4w])]
noncomputable def WZ:Fact:=fH 2 0 29 8 58 Hz Le FN GZ 27
theorem WY (w0:World):bg Tryz.prog T w0 8 280 WZ:=aX hT (hF w0) ⟨_,Tryz.func280,by kernel_rfl,rfl⟩ (show gI 8 2 29 8 27 FN GZ=true by kernel_rfl) (show gq T FF 8 1000 1000 280 2 0 29 8 Hz Le FN GZ 27=true by kernel_rfl) (fun d d'=>show fZ T FF 8 1000 1000 280 2 0 29 8 Hz Le FN GZ 27 d d'=true by kernel_rfl)
noncomputable def jI:Nat→Option FC:=ovl T 8 280 VH [afs,afr,afq,afp,afo,afn,afm,afl,afk,afj,Xt,Xq,Xo,Xm,Xk,Xi,Xg,Xe,Xc,Xa,WZ] FF
set_option maxRecDepth 100000 in
theorem yT (w0:World):dJ Tryz.prog T w0 8 jI:=bT (hF w0) (aN (aaG w0) (aN (aaF w0) (aN (aaE w0) (aN (aaD w0) (aN (aaC w0) (aN (aaB w0) (aN (aaA w0) (aN (aaz w0) (aN (aay w0) (aN (aax w0) (aN (Xr w0) (aN (Xp w0) (aN (Xn w0) (aN (Xl w0) (aN (Xj w0) (aN (Xh w0) (aN (Xf w0) (aN (Xd w0) (aN (Xb w0) (aN (W9 w0) (aN (WY w0) EL))))))))))))))))))))) (aku w0 8)
end Go.Proofs.YthckjidmpbiccaaGreatDoor
