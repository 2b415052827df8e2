/- Sim: facts of function 230 (slices.Insert[[]gameplayer/api.Term,gameplayer/api.Term]). Printed by a program (SimF3.lean). -/
import Derived.Test.YtdbkblcekmogkaaGreatDoorSimFtOne
import Derived.Test.YtdbkblcekmogkaaGreatDoorSimStrOne
set_option linter.unusedVariables false
set_option linter.unusedSimpArgs false
set_option linter.all false
namespace Go.Proofs.YtdbkblcekmogkaaGreatDoor
open Go Go.Sim
noncomputable def PK:List V:=[z15,Z6,z15,Z8]
noncomputable def O1:List V:=(pu1 0 [z18,Zl] PK)
noncomputable def SY:List V:=[Z0,Zg]
noncomputable def Nw:List (Nat×FO):=[(6,bk 2 [z18,Zl])]
noncomputable def adT:Fact:=fA 2 0 2 5 4 PK SY Nw O1 10
theorem YV (w0:World):aZ Tryz.prog T w0 5 230 adT:=aW hT (hF w0) ⟨_,Tryz.func230,by kernel_rfl,rfl⟩ (show fZ 5 2 2 5 10 Nw O1=true by kernel_rfl) (show fG T FF 5 1000 1000 230 2 0 2 5 PK SY Nw O1 10=true by kernel_rfl) (fun d d'=>show fF T FF 5 1000 1000 230 2 0 2 5 PK SY Nw O1 10 d d'=true by kernel_rfl)
noncomputable def PI:List V:=[z18,Z6,z15,Z8,z15,Zl,z0,Z6,z2,Z3w,z2,Z2b,z2,Z1k]
noncomputable def OZ:List V:=(pu1 2 [z5,Z2c] PI)
noncomputable def SX:List V:=[Z1,Zg]
noncomputable def Nv:List (Nat×FO):=[(6,bk 2 [z5,Z2c])]
noncomputable def adS:Fact:=fA 2 0 7 5 14 PI SX Nv OZ 14
theorem YU (w0:World):aZ Tryz.prog T w0 5 230 adS:=aW hT (hF w0) ⟨_,Tryz.func230,by kernel_rfl,rfl⟩ (show fZ 5 2 7 5 14 Nv OZ=true by kernel_rfl) (show fG T FF 5 1000 1000 230 2 0 7 5 PI SX Nv OZ 14=true by kernel_rfl) (fun d d'=>show fF T FF 5 1000 1000 230 2 0 7 5 PI SX Nv OZ 14 d d'=true by kernel_rfl)
noncomputable def PG:List V:=[z18,Z6,z5,Z8,z15,Zl,z15,Zv,z0,Z6,z2,Z2b,z2,Z1k,z2,Z1q]
noncomputable def OY:List V:=(pu1 10 [z0,Z8] PG)
noncomputable def SS:List V:=[Z4,Zg]
noncomputable def Nu:List (Nat×FO):=[(6,bk 2 [z0,Z8])]
noncomputable def adR:Fact:=fA 2 0 8 5 16 PG SS Nu OY 14
theorem YT (w0:World):aZ Tryz.prog T w0 5 230 adR:=aW hT (hF w0) ⟨_,Tryz.func230,by kernel_rfl,rfl⟩ (show fZ 5 2 8 5 14 Nu OY=true by kernel_rfl) (show fG T FF 5 1000 1000 230 2 0 8 5 PG SS Nu OY 14=true by kernel_rfl) (fun d d'=>show fF T FF 5 1000 1000 230 2 0 8 5 PG SS Nu OY 14 d d'=true by kernel_rfl)
noncomputable def PE:List V:=[z18,Z6,z5,Z8,z15,Zl,z15,Zv,z0,Z6,z0,Z8,z2,Z2b,z2,Z1k,z2,Z1q]
noncomputable def OX:List V:=(pu1 12 [z3,Z2b] PE)
noncomputable def SQ:List V:=[Z9,Zg]
noncomputable def Ns:List (Nat×FO):=[(6,bk 2 [z3,Z2b])]
noncomputable def adQ:Fact:=fA 2 0 9 5 18 PE SQ Ns OX 14
theorem YS (w0:World):aZ Tryz.prog T w0 5 230 adQ:=aW hT (hF w0) ⟨_,Tryz.func230,by kernel_rfl,rfl⟩ (show fZ 5 2 9 5 14 Ns OX=true by kernel_rfl) (show fG T FF 5 1000 1000 230 2 0 9 5 PE SQ Ns OX 14=true by kernel_rfl) (fun d d'=>show fF T FF 5 1000 1000 230 2 0 9 5 PE SQ Ns OX 14 d d'=true by kernel_rfl)
noncomputable def Pz:List V:=[z18,Z6,z5,Z8,z15,Zl,z15,Zv,z0,Z6,z0,Z8,z3,Z2b,z2,Z2b,z2,Z1k,z2,Z1q]
noncomputable def OW:List V:=(pu1 14 [z3,Z1k] Pz)
noncomputable def SN:List V:=[Zc,Zg]
noncomputable def Nr:List (Nat×FO):=[(6,bk 2 [z3,Z1k])]
noncomputable def adP:Fact:=fA 2 0 10 5 20 Pz SN Nr OW 14
theorem YR (w0:World):aZ Tryz.prog T w0 5 230 adP:=aW hT (hF w0) ⟨_,Tryz.func230,by kernel_rfl,rfl⟩ (show fZ 5 2 10 5 14 Nr OW=true by kernel_rfl) (show fG T FF 5 1000 1000 230 2 0 10 5 Pz SN Nr OW 14=true by kernel_rfl) (fun d d'=>show fF T FF 5 1000 1000 230 2 0 10 5 Pz SN Nr OW 14 d d'=true by kernel_rfl)
noncomputable def Py:List V:=[z18,Z6,z5,Z8,z15,Zl,z15,Zv,z0,Z6,z0,Z8,z3,Z2b,z3,Z1k,z2,Z2b,z2,Z1k,z2,Z1q]
noncomputable def OU:List V:=(pu1 16 [z3,Z1q] Py)
noncomputable def SI:List V:=[Zf,Zg]
noncomputable def Nq:List (Nat×FO):=[(6,bk 2 [z3,Z1q])]
noncomputable def adO:Fact:=fA 2 0 11 5 22 Py SI Nq OU 14
theorem YQ (w0:World):aZ Tryz.prog T w0 5 230 adO:=aW hT (hF w0) ⟨_,Tryz.func230,by kernel_rfl,rfl⟩ (show fZ 5 2 11 5 14 Nq OU=true by kernel_rfl) (show fG T FF 5 1000 1000 230 2 0 11 5 Py SI Nq OU 14=true by kernel_rfl) (fun d d'=>show fF T FF 5 1000 1000 230 2 0 11 5 Py SI Nq OU 14 d d'=true by kernel_rfl)
noncomputable def Px:List V:=[z18,Z6,z5,Z8,z15,Zl,z15,Zv,z0,Z6,z0,Z8,z3,Z2b,z3,Z1k,z3,Z1q,z2,Z2b,z2,Z1k,z2,Z1q,z2,Z16,z2,Z11]
noncomputable def OT:List V:=(pu1 18 [z2,Zq] Px)
noncomputable def SH:List V:=[Zj,Zg]
noncomputable def Np:List (Nat×FO):=[(6,bk 2 [z2,Zq])]
noncomputable def adN:Fact:=fA 2 0 14 5 28 Px SH Np OT 17
theorem YP (w0:World):aZ Tryz.prog T w0 5 230 adN:=aW hT (hF w0) ⟨_,Tryz.func230,by kernel_rfl,rfl⟩ (show fZ 5 2 14 5 17 Np OT=true by kernel_rfl) (show fG T FF 5 1000 1000 230 2 0 14 5 Px SH Np OT 17=true by kernel_rfl) (fun d d'=>show fF T FF 5 1000 1000 230 2 0 14 5 Px SH Np OT 17 d d'=true by kernel_rfl)
noncomputable def Pv:List V:=[z18,Z6,z5,Z8,z15,Zl,z15,Zv,z0,Z6,z0,Z8,z3,Z2b,z3,Z1k,z3,Z1q,z2,Z16,z2,Z2b,z2,Z1k,z2,Z1q,z2,Z11,z2,Zq]
noncomputable def OQ:List V:=(pu1 2 [z5,Z3x] Pv)
noncomputable def SG:List V:=[Z1,Zg]
noncomputable def Nl:List (Nat×FO):=[(6,bk 2 [z5,Z3x])]
noncomputable def adM:Fact:=fA 2 0 15 5 30 Pv SG Nl OQ 18
theorem YO (w0:World):aZ Tryz.prog T w0 5 230 adM:=aW hT (hF w0) ⟨_,Tryz.func230,by kernel_rfl,rfl⟩ (show fZ 5 2 15 5 18 Nl OQ=true by kernel_rfl) (show fG T FF 5 1000 1000 230 2 0 15 5 Pv SG Nl OQ 18=true by kernel_rfl) (fun d d'=>show fF T FF 5 1000 1000 230 2 0 15 5 Pv SG Nl OQ 18 d d'=true by kernel_rfl)
noncomputable def Pq:List V:=[z18,Z6,z5,Z8,z5,Zl,z15,Zv,z15,Z18,z0,Z6,z0,Zl,z3,Z1k,z3,Z1q,z3,Z16,z2,Z11,z2,Z1k,z2,Z1q,z2,Z16,z2,Zq,z2,Z1c]
noncomputable def OO:List V:=(pu1 4 [z5,Z3a] Pq)
noncomputable def SE:List V:=[Z2,Zg]
noncomputable def Nk:List (Nat×FO):=[(6,bk 2 [z5,Z3a])]
noncomputable def adL:Fact:=fA 2 0 16 5 32 Pq SE Nk OO 19
theorem YN (w0:World):aZ Tryz.prog T w0 5 230 adL:=aW hT (hF w0) ⟨_,Tryz.func230,by kernel_rfl,rfl⟩ (show fZ 5 2 16 5 19 Nk OO=true by kernel_rfl) (show fG T FF 5 1000 1000 230 2 0 16 5 Pq SE Nk OO 19=true by kernel_rfl) (fun d d'=>show fF T FF 5 1000 1000 230 2 0 16 5 Pq SE Nk OO 19 d d'=true by kernel_rfl)
noncomputable def Po:List V:=[z18,Z6,z5,Z8,z5,Zl,z5,Zv,z15,Z18,z15,Z1i,z0,Z6,z0,Zv,z3,Z1q,z3,Z16,z3,Z11,z2,Zq,z2,Z1q,z2,Z16,z2,Z11,z2,Z1c,z2,Z17]
noncomputable def OM:List V:=(pu1 8 [z5,Z3y] Po)
noncomputable def SC:List V:=[Z3,Zg]
noncomputable def Nj:List (Nat×FO):=[(6,bk 2 [z5,Z3y])]
noncomputable def adK:Fact:=fA 2 0 17 5 34 Po SC Nj OM 20
theorem YM (w0:World):aZ Tryz.prog T w0 5 230 adK:=aW hT (hF w0) ⟨_,Tryz.func230,by kernel_rfl,rfl⟩ (show fZ 5 2 17 5 20 Nj OM=true by kernel_rfl) (show fG T FF 5 1000 1000 230 2 0 17 5 Po SC Nj OM 20=true by kernel_rfl) (fun d d'=>show fF T FF 5 1000 1000 230 2 0 17 5 Po SC Nj OM 20 d d'=true by kernel_rfl)
noncomputable def Gw:List V:=[z18,Z6,z5,Z8,z5,Zl,z5,Zv,z5,Z18,z15,Z1i,z15,Z2c,z0,Z6,z0,Zv,z3,Z16,z3,Z11,z3,Zq,z2,Z1c,z2,Z16,z2,Z11,z2,Zq,z2,Z17,z2,Z1l,z20,Z19]
noncomputable def FZ:List V:=(pu1 14 [z0,Z8] Gw)
noncomputable def J7:List V:=[Zc,Zg]
noncomputable def EK:List (Nat×FO):=[(6,bk 2 [z0,Z8])]
noncomputable def V4:Fact:=fA 2 0 19 5 38 Gw J7 EK FZ 21
theorem V3 (w0:World):aZ Tryz.prog T w0 5 230 V4:=aW hT (hF w0) ⟨_,Tryz.func230,by kernel_rfl,rfl⟩ (show fZ 5 2 19 5 21 EK FZ=true by kernel_rfl) (show fG T FF 5 1000 1000 230 2 0 19 5 Gw J7 EK FZ 21=true by kernel_rfl) (fun d d'=>show fF T FF 5 1000 1000 230 2 0 19 5 Gw J7 EK FZ 21 d d'=true by kernel_rfl)
noncomputable def Gv:List V:=[z18,Z6,z5,Z8,z5,Zl,z5,Zv,z5,Z18,z15,Z1i,z15,Z2c,z0,Z8,z0,Z6,z0,Zv,z3,Z16,z3,Z11,z3,Zq,z2,Z1c,z2,Z16,z2,Z11,z2,Zq,z2,Z17,z2,Z1l,z20,Z19]
noncomputable def FY:List V:=(pu1 16 [z0,Zl] Gv)
noncomputable def J6:List V:=[Zf,Zg]
noncomputable def EJ:List (Nat×FO):=[(6,bk 2 [z0,Zl])]
noncomputable def VZ:Fact:=fA 2 0 20 5 40 Gv J6 EJ FY 21
theorem VY (w0:World):aZ Tryz.prog T w0 5 230 VZ:=aW hT (hF w0) ⟨_,Tryz.func230,by kernel_rfl,rfl⟩ (show fZ 5 2 20 5 21 EJ FY=true by kernel_rfl) (show fG T FF 5 1000 1000 230 2 0 20 5 Gv J6 EJ FY 21=true by kernel_rfl) (fun d d'=>show fF T FF 5 1000 1000 230 2 0 20 5 Gv J6 EJ FY 21 d d'=true by kernel_rfl)
noncomputable def Gu:List V:=[z18,Z6,z5,Z8,z5,Zl,z5,Zv,z5,Z18,z15,Z1i,z15,Z2c,z0,Z8,z0,Zl,z0,Z6,z0,Zv,z3,Z16,z3,Z11,z3,Zq,z2,Z1c,z2,Z16,z2,Z11,z2,Zq,z2,Z17,z2,Z1l,z20,Z19]
noncomputable def FX:List V:=(pu1 22 [z0,Z18] Gu)
noncomputable def J5:List V:=[Zw,Zg]
noncomputable def EI:List (Nat×FO):=[(6,bk 2 [z0,Z18])]
noncomputable def VX:Fact:=fA 2 0 21 5 42 Gu J5 EI FX 21
theorem VW (w0:World):aZ Tryz.prog T w0 5 230 VX:=aW hT (hF w0) ⟨_,Tryz.func230,by kernel_rfl,rfl⟩ (show fZ 5 2 21 5 21 EI FX=true by kernel_rfl) (show fG T FF 5 1000 1000 230 2 0 21 5 Gu J5 EI FX 21=true by kernel_rfl) (fun d d'=>show fF T FF 5 1000 1000 230 2 0 21 5 Gu J5 EI FX 21 d d'=true by kernel_rfl)
noncomputable def Gt:List V:=[z18,Z6,z5,Z8,z5,Zl,z5,Zv,z5,Z18,z15,Z1i,z15,Z2c,z0,Z8,z0,Zl,z0,Z6,z0,Zv,z0,Z18,z3,Z16,z3,Z11,z3,Zq,z2,Z1c,z2,Z16,z2,Z11,z2,Zq,z2,Z17,z2,Z1l,z20,Z19]
noncomputable def FW:List V:=(pu1 24 [z3,Z1c] Gt)
noncomputable def J4:List V:=[Zh,Zg]
noncomputable def EH:List (Nat×FO):=[(6,bk 2 [z3,Z1c])]
noncomputable def VU:Fact:=fA 2 0 22 5 44 Gt J4 EH FW 21
theorem VT (w0:World):aZ Tryz.prog T w0 5 230 VU:=aW hT (hF w0) ⟨_,Tryz.func230,by kernel_rfl,rfl⟩ (show fZ 5 2 22 5 21 EH FW=true by kernel_rfl) (show fG T FF 5 1000 1000 230 2 0 22 5 Gt J4 EH FW 21=true by kernel_rfl) (fun d d'=>show fF T FF 5 1000 1000 230 2 0 22 5 Gt J4 EH FW 21 d d'=true by kernel_rfl)
noncomputable def Gs:List V:=[z18,Z6,z5,Z8,z5,Zl,z5,Zv,z5,Z18,z15,Z1i,z15,Z2c,z0,Z8,z0,Zl,z0,Z6,z0,Zv,z0,Z18,z3,Z16,z3,Z11,z3,Zq,z3,Z1c,z2,Z16,z2,Z11,z2,Zq,z2,Z1c,z2,Z17,z2,Z1l,z20,Z19]
noncomputable def FV:List V:=(pu1 32 [z3,Z17] Gs)
noncomputable def J3:List V:=[Zn,Zg]
noncomputable def EG:List (Nat×FO):=[(6,bk 2 [z3,Z17])]
noncomputable def VR:Fact:=fA 2 0 23 5 46 Gs J3 EG FV 21
theorem VQ (w0:World):aZ Tryz.prog T w0 5 230 VR:=aW hT (hF w0) ⟨_,Tryz.func230,by kernel_rfl,rfl⟩ (show fZ 5 2 23 5 21 EG FV=true by kernel_rfl) (show fG T FF 5 1000 1000 230 2 0 23 5 Gs J3 EG FV 21=true by kernel_rfl) (fun d d'=>show fF T FF 5 1000 1000 230 2 0 23 5 Gs J3 EG FV 21 d d'=true by kernel_rfl)
noncomputable def Gq:List V:=[z18,Z6,z5,Z8,z5,Zl,z5,Zv,z5,Z18,z15,Z1i,z15,Z2c,z0,Z8,z0,Zl,z0,Z6,z0,Zv,z0,Z18,z3,Z16,z3,Z11,z3,Zq,z3,Z1c,z3,Z17,z2,Z16,z2,Z11,z2,Zq,z2,Z1c,z2,Z17,z2,Z1l,z20,Z19]
noncomputable def FU:List V:=(pu1 34 [z3,Z1l] Gq)
noncomputable def JZ:List V:=[Z1d,Zg]
noncomputable def EF:List (Nat×FO):=[(6,bk 2 [z3,Z1l])]
noncomputable def VP:Fact:=fA 2 0 24 5 48 Gq JZ EF FU 21
theorem VO (w0:World):aZ Tryz.prog T w0 5 230 VP:=aW hT (hF w0) ⟨_,Tryz.func230,by kernel_rfl,rfl⟩ (show fZ 5 2 24 5 21 EF FU=true by kernel_rfl) (show fG T FF 5 1000 1000 230 2 0 24 5 Gq JZ EF FU 21=true by kernel_rfl) (fun d d'=>show fF T FF 5 1000 1000 230 2 0 24 5 Gq JZ EF FU 21 d d'=true by kernel_rfl)
noncomputable def Gp:List V:=[z18,Z6,z5,Z8,z5,Zl,z5,Zv,z5,Z18,z15,Z1i,z15,Z2c,z0,Z8,z0,Zl,z0,Z6,z0,Zv,z0,Z18,z3,Z16,z3,Z11,z3,Zq,z3,Z1c,z3,Z17,z3,Z1l,z2,Z16,z2,Z11,z2,Zq,z2,Z1c,z2,Z17,z2,Z1l,z20,Z19]
noncomputable def FQ:List V:=(pu1 2 [z5,Z1f] Gp)
noncomputable def JY:List V:=[Z1,Zg]
noncomputable def EC:List (Nat×FO):=[(6,bk 2 [z5,Z1f])]
noncomputable def VN:Fact:=fA 2 0 25 5 50 Gp JY EC FQ 22
theorem VL (w0:World):aZ Tryz.prog T w0 5 230 VN:=aW hT (hF w0) ⟨_,Tryz.func230,by kernel_rfl,rfl⟩ (show fZ 5 2 25 5 22 EC FQ=true by kernel_rfl) (show fG T FF 5 1000 1000 230 2 0 25 5 Gp JY EC FQ 22=true by kernel_rfl) (fun d d'=>show fF T FF 5 1000 1000 230 2 0 25 5 Gp JY EC FQ 22 d d'=true by kernel_rfl)
noncomputable def Gn:List V:=[z18,Z6,z5,Z8,z5,Zl,z5,Zv,z5,Z18,z5,Z1i,z15,Z2c,z15,Z3b,z0,Zl,z0,Zv,z0,Z6,z0,Z18,z0,Z1i,z3,Z11,z3,Zq,z3,Z1c,z3,Z17,z3,Z1l,z3,Z19,z2,Z11,z2,Zq,z2,Z1c,z2,Z17,z2,Z1l,z2,Z19,z20,Z55]
noncomputable def FP:List V:=(pu1 0 [z23,.aj] Gn)
noncomputable def JX:List V:=[Z0,Zg]
noncomputable def Ez:List (Nat×FO):=[(6,bk 2 [z23,.aj])]
noncomputable def VK:Fact:=fA 2 0 26 5 52 Gn JX Ez FP 22
theorem VJ (w0:World):aZ Tryz.prog T w0 5 230 VK:=aW hT (hF w0) ⟨_,Tryz.func230,by kernel_rfl,rfl⟩ (show fZ 5 2 26 5 22 Ez FP=true by kernel_rfl) (show fG T FF 5 1000 1000 230 2 0 26 5 Gn JX Ez FP 22=true by kernel_rfl) (fun d d'=>show fF T FF 5 1000 1000 230 2 0 26 5 Gn JX Ez FP 22 d d'=true by kernel_rfl)
noncomputable def Gm:List V:=[z23,.aj,z18,Z6,z5,Z8,z5,Zl,z5,Zv,z5,Z18,z5,Z1i,z15,Z2c,z15,Z3b,z0,Zl,z0,Zv,z0,Z6,z0,Z18,z0,Z1i,z3,Z11,z3,Zq,z3,Z1c,z3,Z17,z3,Z1l,z3,Z19,z2,Z11,z2,Zq,z2,Z1c,z2,Z17,z2,Z1l,z2,Z19,z20,Z55]
noncomputable def FN:List V:=(pu1 40 [z19,Z49] Gm)
noncomputable def JW:List V:=[Z3m,Zg]
noncomputable def Ey:List (Nat×FO):=[(6,bk 2 [z19,Z49])]
noncomputable def VI:Fact:=fA 2 0 27 5 54 Gm JW Ey FN 23
theorem VH (w0:World):aZ Tryz.prog T w0 5 230 VI:=aW hT (hF w0) ⟨_,Tryz.func230,by kernel_rfl,rfl⟩ (show fZ 5 2 27 5 23 Ey FN=true by kernel_rfl) (show fG T FF 5 1000 1000 230 2 0 27 5 Gm JW Ey FN 23=true by kernel_rfl) (fun d d'=>show fF T FF 5 1000 1000 230 2 0 27 5 Gm JW Ey FN 23 d d'=true by kernel_rfl)
noncomputable def Gl:List V:=[z23,.aj,z18,Z6,z5,Z8,z5,Zl,z5,Zv,z5,Z18,z5,Z1i,z15,Z2c,z15,Z3b,z0,Zl,z0,Zv,z0,Z6,z0,Z18,z0,Z1i,z3,Z11,z3,Zq,z3,Z1c,z3,Z17,z3,Z1l,z3,Z19,z19,Z55,z2,Z11,z2,Zq,z2,Z1c,z2,Z17,z2,Z1l,z2,Z19,z20,Z49]
noncomputable def FM:List V:=(pu1 18 [z0,Z8] Gl)
noncomputable def JV:List V:=[Zj,Zg]
noncomputable def Ew:List (Nat×FO):=[(6,bk 2 [z0,Z8])]
noncomputable def VG:Fact:=fA 2 0 28 5 56 Gl JV Ew FM 23
theorem VF (w0:World):aZ Tryz.prog T w0 5 230 VG:=aW hT (hF w0) ⟨_,Tryz.func230,by kernel_rfl,rfl⟩ (show fZ 5 2 28 5 23 Ew FM=true by kernel_rfl) (show fG T FF 5 1000 1000 230 2 0 28 5 Gl JV Ew FM 23=true by kernel_rfl) (fun d d'=>show fF T FF 5 1000 1000 230 2 0 28 5 Gl JV Ew FM 23 d d'=true by kernel_rfl)
noncomputable def Gj:List V:=[z23,.aj,z18,Z6,z5,Z8,z5,Zl,z5,Zv,z5,Z18,z5,Z1i,z15,Z2c,z15,Z3b,z0,Z8,z0,Zl,z0,Zv,z0,Z6,z0,Z18,z0,Z1i,z3,Z11,z3,Zq,z3,Z1c,z3,Z17,z3,Z1l,z3,Z19,z19,Z55,z2,Z11,z2,Zq,z2,Z1c,z2,Z17,z2,Z1l,z2,Z19,z20,Z49]
noncomputable def FK:List V:=(pu1 44 [z19,Z4w] Gj)
noncomputable def JU:List V:=[Z34,Zg]
noncomputable def Eu:List (Nat×FO):=[(6,bk 2 [z19,Z4w])]
noncomputable def VE:Fact:=fA 2 0 29 5 58 Gj JU Eu FK 24
theorem VD (w0:World):aZ Tryz.prog T w0 5 230 VE:=aW hT (hF w0) ⟨_,Tryz.func230,by kernel_rfl,rfl⟩ (show fZ 5 2 29 5 24 Eu FK=true by kernel_rfl) (show fG T FF 5 1000 1000 230 2 0 29 5 Gj JU Eu FK 24=true by kernel_rfl) (fun d d'=>show fF T FF 5 1000 1000 230 2 0 29 5 Gj JU Eu FK 24 d d'=true by kernel_rfl)
noncomputable def jE:Nat→Option FC:=ovl T 5 230 UC [adT,adS,adR,adQ,adP,adO,adN,adM,adL,adK,V4,VZ,VX,VU,VR,VP,VN,VK,VI,VG,VE] FF
set_option maxRecDepth 100000 in
theorem xP (w0:World):dD Tryz.prog T w0 5 jE:=bM (hF w0) (aI (YV w0) (aI (YU w0) (aI (YT w0) (aI (YS w0) (aI (YR w0) (aI (YQ w0) (aI (YP w0) (aI (YO w0) (aI (YN w0) (aI (YM w0) (aI (V3 w0) (aI (VY w0) (aI (VW w0) (aI (VT w0) (aI (VQ w0) (aI (VO w0) (aI (VL w0) (aI (VJ w0) (aI (VH w0) (aI (VF w0) (aI (VD w0) pV))))))))))))))))))))) (aiI w0 5)
end Go.Proofs.YtdbkblcekmogkaaGreatDoor
