/- Sim: facts of function 255 (slices.Insert[[]gameplayer/api.Term,gameplayer/api.Term]). Printed by a program (SimF3.lean). -/
import Derived.Test.YtbhfbliodeagmaaGreatDoorSimPrAnd
set_option linter.all false
namespace Go.Proofs.YtbhfbliodeagmaaGreatDoor
open Go Go.Sim
noncomputable def Uy:List V:=[z13,Z3,z13,Z7]
noncomputable def TT:List V:=(pu1 0 [z17,Zg] Uy)
noncomputable def Xm:List V:=[Z0,Ze]
noncomputable def Ro:List (Nat×FO):=[(7,bk 2 [z17,Zg])]
noncomputable def ahj:Fact:=gu 2 0 2 6 4 Uy Xm Ro TT 11
theorem ac8 (w0:WM):aZ Tryz.prog T w0 6 255 ahj:=bg hT (hF2 w0) ⟨_,Tryz.func255,by kernel_rfl,rfl⟩ (show iy 6 2 2 6 11 Ro TT=true by kernel_rfl) (show gY T FF2 6 1000 1000 255 2 0 2 6 Uy Xm Ro TT 11=true by kernel_rfl) (fun d d'=>show gX T FF2 6 1000 1000 255 2 0 2 6 Uy Xm Ro TT 11 d d'=true by kernel_rfl)
noncomputable def Ux:List V:=[z17,Z3,z13,Z7,z13,Zg,z0,Z3,z1,Z3h,z1,Z20,z1,Z15]
noncomputable def TS:List V:=(pu1 2 [z5,Z21] Ux)
noncomputable def Xl:List V:=[Z1,Ze]
noncomputable def Rn:List (Nat×FO):=[(7,bk 2 [z5,Z21])]
noncomputable def ahi:Fact:=gu 2 0 7 6 14 Ux Xl Rn TS 15
theorem ac7 (w0:WM):aZ Tryz.prog T w0 6 255 ahi:=bg hT (hF2 w0) ⟨_,Tryz.func255,by kernel_rfl,rfl⟩ (show iy 6 2 7 6 15 Rn TS=true by kernel_rfl) (show gY T FF2 6 1000 1000 255 2 0 7 6 Ux Xl Rn TS 15=true by kernel_rfl) (fun d d'=>show gX T FF2 6 1000 1000 255 2 0 7 6 Ux Xl Rn TS 15 d d'=true by kernel_rfl)
noncomputable def Uw:List V:=[z17,Z3,z5,Z7,z13,Zg,z13,Zp,z0,Z3,z1,Z20,z1,Z15,z1,Z1c]
noncomputable def TR:List V:=(pu1 10 [z0,Z7] Uw)
noncomputable def Xk:List V:=[Z6,Ze]
noncomputable def Rl:List (Nat×FO):=[(7,bk 2 [z0,Z7])]
noncomputable def ahh:Fact:=gu 2 0 8 6 16 Uw Xk Rl TR 15
theorem ac6 (w0:WM):aZ Tryz.prog T w0 6 255 ahh:=bg hT (hF2 w0) ⟨_,Tryz.func255,by kernel_rfl,rfl⟩ (show iy 6 2 8 6 15 Rl TR=true by kernel_rfl) (show gY T FF2 6 1000 1000 255 2 0 8 6 Uw Xk Rl TR 15=true by kernel_rfl) (fun d d'=>show gX T FF2 6 1000 1000 255 2 0 8 6 Uw Xk Rl TR 15 d d'=true by kernel_rfl)
noncomputable def Uu:List V:=[z17,Z3,z5,Z7,z13,Zg,z13,Zp,z0,Z3,z0,Z7,z1,Z20,z1,Z15,z1,Z1c]
noncomputable def TQ:List V:=(pu1 12 [z3,Z20] Uu)
noncomputable def Xj:List V:=[Zb,Ze]
noncomputable def Rk:List (Nat×FO):=[(7,bk 2 [z3,Z20])]
noncomputable def ahg:Fact:=gu 2 0 9 6 18 Uu Xj Rk TQ 15
theorem ac5 (w0:WM):aZ Tryz.prog T w0 6 255 ahg:=bg hT (hF2 w0) ⟨_,Tryz.func255,by kernel_rfl,rfl⟩ (show iy 6 2 9 6 15 Rk TQ=true by kernel_rfl) (show gY T FF2 6 1000 1000 255 2 0 9 6 Uu Xj Rk TQ 15=true by kernel_rfl) (fun d d'=>show gX T FF2 6 1000 1000 255 2 0 9 6 Uu Xj Rk TQ 15 d d'=true by kernel_rfl)
noncomputable def Ut:List V:=[z17,Z3,z5,Z7,z13,Zg,z13,Zp,z0,Z3,z0,Z7,z3,Z20,z1,Z20,z1,Z15,z1,Z1c]
noncomputable def TP:List V:=(pu1 14 [z3,Z15] Ut)
noncomputable def Xi:List V:=[Zf,Ze]
noncomputable def Rj:List (Nat×FO):=[(7,bk 2 [z3,Z15])]
noncomputable def ahf:Fact:=gu 2 0 10 6 20 Ut Xi Rj TP 15
theorem ac4 (w0:WM):aZ Tryz.prog T w0 6 255 ahf:=bg hT (hF2 w0) ⟨_,Tryz.func255,by kernel_rfl,rfl⟩ (show iy 6 2 10 6 15 Rj TP=true by kernel_rfl) (show gY T FF2 6 1000 1000 255 2 0 10 6 Ut Xi Rj TP 15=true by kernel_rfl) (fun d d'=>show gX T FF2 6 1000 1000 255 2 0 10 6 Ut Xi Rj TP 15 d d'=true by kernel_rfl)
noncomputable def Us:List V:=[z17,Z3,z5,Z7,z13,Zg,z13,Zp,z0,Z3,z0,Z7,z3,Z20,z3,Z15,z1,Z20,z1,Z15,z1,Z1c]
noncomputable def TN:List V:=(pu1 16 [z3,Z1c] Us)
noncomputable def Xh:List V:=[Zo,Ze]
noncomputable def Ri:List (Nat×FO):=[(7,bk 2 [z3,Z1c])]
noncomputable def ahe:Fact:=gu 2 0 11 6 22 Us Xh Ri TN 15
theorem ac3 (w0:WM):aZ Tryz.prog T w0 6 255 ahe:=bg hT (hF2 w0) ⟨_,Tryz.func255,by kernel_rfl,rfl⟩ (show iy 6 2 11 6 15 Ri TN=true by kernel_rfl) (show gY T FF2 6 1000 1000 255 2 0 11 6 Us Xh Ri TN 15=true by kernel_rfl) (fun d d'=>show gX T FF2 6 1000 1000 255 2 0 11 6 Us Xh Ri TN 15 d d'=true by kernel_rfl)
noncomputable def Ur:List V:=[z17,Z3,z5,Z7,z13,Zg,z13,Zp,z0,Z3,z0,Z7,z3,Z20,z3,Z15,z3,Z1c,z1,Z20,z1,Z15,z1,Z1c,z1,Zw,z1,Zt]
noncomputable def TM:List V:=(pu1 18 [z1,Zm] Ur)
noncomputable def Xg:List V:=[Zk,Ze]
noncomputable def Rh:List (Nat×FO):=[(7,bk 2 [z1,Zm])]
noncomputable def ahd:Fact:=gu 2 0 14 6 28 Ur Xg Rh TM 18
theorem ac2 (w0:WM):aZ Tryz.prog T w0 6 255 ahd:=bg hT (hF2 w0) ⟨_,Tryz.func255,by kernel_rfl,rfl⟩ (show iy 6 2 14 6 18 Rh TM=true by kernel_rfl) (show gY T FF2 6 1000 1000 255 2 0 14 6 Ur Xg Rh TM 18=true by kernel_rfl) (fun d d'=>show gX T FF2 6 1000 1000 255 2 0 14 6 Ur Xg Rh TM 18 d d'=true by kernel_rfl)
noncomputable def Uo:List V:=[z17,Z3,z5,Z7,z13,Zg,z13,Zp,z0,Z3,z0,Z7,z3,Z20,z3,Z15,z3,Z1c,z1,Zw,z1,Z20,z1,Z15,z1,Z1c,z1,Zt,z1,Zm]
noncomputable def TL:List V:=(pu1 2 [z5,Z3i] Uo)
noncomputable def Xf:List V:=[Z1,Ze]
noncomputable def Rf:List (Nat×FO):=[(7,bk 2 [z5,Z3i])]
noncomputable def ahc:Fact:=gu 2 0 15 6 30 Uo Xf Rf TL 19
theorem ac1 (w0:WM):aZ Tryz.prog T w0 6 255 ahc:=bg hT (hF2 w0) ⟨_,Tryz.func255,by kernel_rfl,rfl⟩ (show iy 6 2 15 6 19 Rf TL=true by kernel_rfl) (show gY T FF2 6 1000 1000 255 2 0 15 6 Uo Xf Rf TL 19=true by kernel_rfl) (fun d d'=>show gX T FF2 6 1000 1000 255 2 0 15 6 Uo Xf Rf TL 19 d d'=true by kernel_rfl)
noncomputable def Un:List V:=[z17,Z3,z5,Z7,z5,Zg,z13,Zp,z13,Zy,z0,Z3,z0,Zg,z3,Z15,z3,Z1c,z3,Zw,z1,Zt,z1,Z15,z1,Z1c,z1,Zw,z1,Zm,z1,Z10]
noncomputable def TJ:List V:=(pu1 4 [z5,Z2t] Un)
noncomputable def Xe:List V:=[Z2,Ze]
noncomputable def Q9:List (Nat×FO):=[(7,bk 2 [z5,Z2t])]
noncomputable def ahb:Fact:=gu 2 0 16 6 32 Un Xe Q9 TJ 20
theorem ac0 (w0:WM):aZ Tryz.prog T w0 6 255 ahb:=bg hT (hF2 w0) ⟨_,Tryz.func255,by kernel_rfl,rfl⟩ (show iy 6 2 16 6 20 Q9 TJ=true by kernel_rfl) (show gY T FF2 6 1000 1000 255 2 0 16 6 Un Xe Q9 TJ 20=true by kernel_rfl) (fun d d'=>show gX T FF2 6 1000 1000 255 2 0 16 6 Un Xe Q9 TJ 20 d d'=true by kernel_rfl)
noncomputable def Um:List V:=[z17,Z3,z5,Z7,z5,Zg,z5,Zp,z13,Zy,z13,Z13,z0,Z3,z0,Zp,z3,Z1c,z3,Zw,z3,Zt,z1,Zm,z1,Z1c,z1,Zw,z1,Zt,z1,Z10,z1,Zx]
noncomputable def TI:List V:=(pu1 8 [z5,Z3j] Um)
noncomputable def Xd:List V:=[Z8,Ze]
noncomputable def Q8:List (Nat×FO):=[(7,bk 2 [z5,Z3j])]
noncomputable def aha:Fact:=gu 2 0 17 6 34 Um Xd Q8 TI 21
theorem acZ (w0:WM):aZ Tryz.prog T w0 6 255 aha:=bg hT (hF2 w0) ⟨_,Tryz.func255,by kernel_rfl,rfl⟩ (show iy 6 2 17 6 21 Q8 TI=true by kernel_rfl) (show gY T FF2 6 1000 1000 255 2 0 17 6 Um Xd Q8 TI 21=true by kernel_rfl) (fun d d'=>show gX T FF2 6 1000 1000 255 2 0 17 6 Um Xd Q8 TI 21 d d'=true by kernel_rfl)
noncomputable def Kz:List V:=[z17,Z3,z5,Z7,z5,Zg,z5,Zp,z5,Zy,z13,Z13,z13,Z21,z0,Z3,z0,Zp,z3,Zw,z3,Zt,z3,Zm,z1,Z10,z1,Zw,z1,Zt,z1,Zm,z1,Zx,z1,Z16,z20,Zz]
noncomputable def JX:List V:=(pu1 14 [z0,Z7] Kz)
noncomputable def OQ:List V:=[Zf,Ze]
noncomputable def Jc:List (Nat×FO):=[(7,bk 2 [z0,Z7])]
noncomputable def aaV:Fact:=gu 2 0 19 6 38 Kz OQ Jc JX 22
theorem aaU (w0:WM):aZ Tryz.prog T w0 6 255 aaV:=bg hT (hF2 w0) ⟨_,Tryz.func255,by kernel_rfl,rfl⟩ (show iy 6 2 19 6 22 Jc JX=true by kernel_rfl) (show gY T FF2 6 1000 1000 255 2 0 19 6 Kz OQ Jc JX 22=true by kernel_rfl) (fun d d'=>show gX T FF2 6 1000 1000 255 2 0 19 6 Kz OQ Jc JX 22 d d'=true by kernel_rfl)
noncomputable def Ky:List V:=[z17,Z3,z5,Z7,z5,Zg,z5,Zp,z5,Zy,z13,Z13,z13,Z21,z0,Z7,z0,Z3,z0,Zp,z3,Zw,z3,Zt,z3,Zm,z1,Z10,z1,Zw,z1,Zt,z1,Zm,z1,Zx,z1,Z16,z20,Zz]
noncomputable def JW:List V:=(pu1 16 [z0,Zg] Ky)
noncomputable def OO:List V:=[Zo,Ze]
noncomputable def Jb:List (Nat×FO):=[(7,bk 2 [z0,Zg])]
noncomputable def aaT:Fact:=gu 2 0 20 6 40 Ky OO Jb JW 22
theorem aaS (w0:WM):aZ Tryz.prog T w0 6 255 aaT:=bg hT (hF2 w0) ⟨_,Tryz.func255,by kernel_rfl,rfl⟩ (show iy 6 2 20 6 22 Jb JW=true by kernel_rfl) (show gY T FF2 6 1000 1000 255 2 0 20 6 Ky OO Jb JW 22=true by kernel_rfl) (fun d d'=>show gX T FF2 6 1000 1000 255 2 0 20 6 Ky OO Jb JW 22 d d'=true by kernel_rfl)
noncomputable def Kw:List V:=[z17,Z3,z5,Z7,z5,Zg,z5,Zp,z5,Zy,z13,Z13,z13,Z21,z0,Z7,z0,Zg,z0,Z3,z0,Zp,z3,Zw,z3,Zt,z3,Zm,z1,Z10,z1,Zw,z1,Zt,z1,Zm,z1,Zx,z1,Z16,z20,Zz]
noncomputable def JV:List V:=(pu1 22 [z0,Zy] Kw)
noncomputable def OM:List V:=[Z1l,Ze]
noncomputable def Ja:List (Nat×FO):=[(7,bk 2 [z0,Zy])]
noncomputable def aaR:Fact:=gu 2 0 21 6 42 Kw OM Ja JV 22
theorem aaQ (w0:WM):aZ Tryz.prog T w0 6 255 aaR:=bg hT (hF2 w0) ⟨_,Tryz.func255,by kernel_rfl,rfl⟩ (show iy 6 2 21 6 22 Ja JV=true by kernel_rfl) (show gY T FF2 6 1000 1000 255 2 0 21 6 Kw OM Ja JV 22=true by kernel_rfl) (fun d d'=>show gX T FF2 6 1000 1000 255 2 0 21 6 Kw OM Ja JV 22 d d'=true by kernel_rfl)
noncomputable def Kv:List V:=[z17,Z3,z5,Z7,z5,Zg,z5,Zp,z5,Zy,z13,Z13,z13,Z21,z0,Z7,z0,Zg,z0,Z3,z0,Zp,z0,Zy,z3,Zw,z3,Zt,z3,Zm,z1,Z10,z1,Zw,z1,Zt,z1,Zm,z1,Zx,z1,Z16,z20,Zz]
noncomputable def JU:List V:=(pu1 24 [z3,Z10] Kv)
noncomputable def OL:List V:=[Zi,Ze]
noncomputable def I9:List (Nat×FO):=[(7,bk 2 [z3,Z10])]
noncomputable def aaP:Fact:=gu 2 0 22 6 44 Kv OL I9 JU 22
theorem aaO (w0:WM):aZ Tryz.prog T w0 6 255 aaP:=bg hT (hF2 w0) ⟨_,Tryz.func255,by kernel_rfl,rfl⟩ (show iy 6 2 22 6 22 I9 JU=true by kernel_rfl) (show gY T FF2 6 1000 1000 255 2 0 22 6 Kv OL I9 JU 22=true by kernel_rfl) (fun d d'=>show gX T FF2 6 1000 1000 255 2 0 22 6 Kv OL I9 JU 22 d d'=true by kernel_rfl)
noncomputable def Ku:List V:=[z17,Z3,z5,Z7,z5,Zg,z5,Zp,z5,Zy,z13,Z13,z13,Z21,z0,Z7,z0,Zg,z0,Z3,z0,Zp,z0,Zy,z3,Zw,z3,Zt,z3,Zm,z3,Z10,z1,Zw,z1,Zt,z1,Zm,z1,Z10,z1,Zx,z1,Z16,z20,Zz]
noncomputable def JR:List V:=(pu1 32 [z3,Zx] Ku)
noncomputable def OJ:List V:=[Zq,Ze]
noncomputable def I8:List (Nat×FO):=[(7,bk 2 [z3,Zx])]
noncomputable def aaN:Fact:=gu 2 0 23 6 46 Ku OJ I8 JR 22
theorem aaM (w0:WM):aZ Tryz.prog T w0 6 255 aaN:=bg hT (hF2 w0) ⟨_,Tryz.func255,by kernel_rfl,rfl⟩ (show iy 6 2 23 6 22 I8 JR=true by kernel_rfl) (show gY T FF2 6 1000 1000 255 2 0 23 6 Ku OJ I8 JR 22=true by kernel_rfl) (fun d d'=>show gX T FF2 6 1000 1000 255 2 0 23 6 Ku OJ I8 JR 22 d d'=true by kernel_rfl)
noncomputable def Kt:List V:=[z17,Z3,z5,Z7,z5,Zg,z5,Zp,z5,Zy,z13,Z13,z13,Z21,z0,Z7,z0,Zg,z0,Z3,z0,Zp,z0,Zy,z3,Zw,z3,Zt,z3,Zm,z3,Z10,z3,Zx,z1,Zw,z1,Zt,z1,Zm,z1,Z10,z1,Zx,z1,Z16,z20,Zz]
noncomputable def JQ:List V:=(pu1 34 [z3,Z16] Kt)
noncomputable def OI:List V:=[Z11,Ze]
noncomputable def I7:List (Nat×FO):=[(7,bk 2 [z3,Z16])]
noncomputable def aaL:Fact:=gu 2 0 24 6 48 Kt OI I7 JQ 22
theorem aaK (w0:WM):aZ Tryz.prog T w0 6 255 aaL:=bg hT (hF2 w0) ⟨_,Tryz.func255,by kernel_rfl,rfl⟩ (show iy 6 2 24 6 22 I7 JQ=true by kernel_rfl) (show gY T FF2 6 1000 1000 255 2 0 24 6 Kt OI I7 JQ 22=true by kernel_rfl) (fun d d'=>show gX T FF2 6 1000 1000 255 2 0 24 6 Kt OI I7 JQ 22 d d'=true by kernel_rfl)
noncomputable def Kr:List V:=[z17,Z3,z5,Z7,z5,Zg,z5,Zp,z5,Zy,z13,Z13,z13,Z21,z0,Z7,z0,Zg,z0,Z3,z0,Zp,z0,Zy,z3,Zw,z3,Zt,z3,Zm,z3,Z10,z3,Zx,z3,Z16,z1,Zw,z1,Zt,z1,Zm,z1,Z10,z1,Zx,z1,Z16,z20,Zz]
noncomputable def JO:List V:=(pu1 2 [z5,Z1d] Kr)
noncomputable def OH:List V:=[Z1,Ze]
noncomputable def I5:List (Nat×FO):=[(7,bk 2 [z5,Z1d])]
noncomputable def aaJ:Fact:=gu 2 0 25 6 50 Kr OH I5 JO 23
theorem aaI (w0:WM):aZ Tryz.prog T w0 6 255 aaJ:=bg hT (hF2 w0) ⟨_,Tryz.func255,by kernel_rfl,rfl⟩ (show iy 6 2 25 6 23 I5 JO=true by kernel_rfl) (show gY T FF2 6 1000 1000 255 2 0 25 6 Kr OH I5 JO 23=true by kernel_rfl) (fun d d'=>show gX T FF2 6 1000 1000 255 2 0 25 6 Kr OH I5 JO 23 d d'=true by kernel_rfl)
noncomputable def Kq:List V:=[z17,Z3,z5,Z7,z5,Zg,z5,Zp,z5,Zy,z5,Z13,z13,Z21,z13,Z2u,z0,Zg,z0,Zp,z0,Z3,z0,Zy,z0,Z13,z3,Zt,z3,Zm,z3,Z10,z3,Zx,z3,Z16,z3,Zz,z1,Zt,z1,Zm,z1,Z10,z1,Zx,z1,Z16,z1,Zz,z20,Z4w]
noncomputable def JM:List V:=(pu1 0 [z21,.aj] Kq)
noncomputable def OG:List V:=[Z0,Ze]
noncomputable def I4:List (Nat×FO):=[(7,bk 2 [z21,.aj])]
noncomputable def aaH:Fact:=gu 2 0 26 6 52 Kq OG I4 JM 23
theorem aaG (w0:WM):aZ Tryz.prog T w0 6 255 aaH:=bg hT (hF2 w0) ⟨_,Tryz.func255,by kernel_rfl,rfl⟩ (show iy 6 2 26 6 23 I4 JM=true by kernel_rfl) (show gY T FF2 6 1000 1000 255 2 0 26 6 Kq OG I4 JM 23=true by kernel_rfl) (fun d d'=>show gX T FF2 6 1000 1000 255 2 0 26 6 Kq OG I4 JM 23 d d'=true by kernel_rfl)
noncomputable def Ko:List V:=[z21,.aj,z17,Z3,z5,Z7,z5,Zg,z5,Zp,z5,Zy,z5,Z13,z13,Z21,z13,Z2u,z0,Zg,z0,Zp,z0,Z3,z0,Zy,z0,Z13,z3,Zt,z3,Zm,z3,Z10,z3,Zx,z3,Z16,z3,Zz,z1,Zt,z1,Zm,z1,Z10,z1,Zx,z1,Z16,z1,Zz,z20,Z4w]
noncomputable def JL:List V:=(pu1 40 [z18,Z3x] Ko)
noncomputable def OE:List V:=[Z32,Ze]
noncomputable def IZ:List (Nat×FO):=[(7,bk 2 [z18,Z3x])]
noncomputable def aaF:Fact:=gu 2 0 27 6 54 Ko OE IZ JL 24
theorem aaE (w0:WM):aZ Tryz.prog T w0 6 255 aaF:=bg hT (hF2 w0) ⟨_,Tryz.func255,by kernel_rfl,rfl⟩ (show iy 6 2 27 6 24 IZ JL=true by kernel_rfl) (show gY T FF2 6 1000 1000 255 2 0 27 6 Ko OE IZ JL 24=true by kernel_rfl) (fun d d'=>show gX T FF2 6 1000 1000 255 2 0 27 6 Ko OE IZ JL 24 d d'=true by kernel_rfl)
noncomputable def J9:List V:=[z21,.aj,z17,Z3,z5,Z7,z5,Zg,z5,Zp,z5,Zy,z5,Z13,z13,Z21,z13,Z2u,z0,Zg,z0,Zp,z0,Z3,z0,Zy,z0,Z13,z3,Zt,z3,Zm,z3,Z10,z3,Zx,z3,Z16,z3,Zz,z18,Z4w,z1,Zt,z1,Zm,z1,Z10,z1,Zx,z1,Z16,z1,Zz,z20,Z3x]
noncomputable def JK:List V:=(pu1 18 [z0,Z7] J9)
noncomputable def OD:List V:=[Zk,Ze]
noncomputable def IY:List (Nat×FO):=[(7,bk 2 [z0,Z7])]
noncomputable def aaD:Fact:=gu 2 0 28 6 56 J9 OD IY JK 24
theorem aaC (w0:WM):aZ Tryz.prog T w0 6 255 aaD:=bg hT (hF2 w0) ⟨_,Tryz.func255,by kernel_rfl,rfl⟩ (show iy 6 2 28 6 24 IY JK=true by kernel_rfl) (show gY T FF2 6 1000 1000 255 2 0 28 6 J9 OD IY JK 24=true by kernel_rfl) (fun d d'=>show gX T FF2 6 1000 1000 255 2 0 28 6 J9 OD IY JK 24 d d'=true by kernel_rfl)
noncomputable def J8:List V:=[z21,.aj,z17,Z3,z5,Z7,z5,Zg,z5,Zp,z5,Zy,z5,Z13,z13,Z21,z13,Z2u,z0,Z7,z0,Zg,z0,Zp,z0,Z3,z0,Zy,z0,Z13,z3,Zt,z3,Zm,z3,Z10,z3,Zx,z3,Z16,z3,Zz,z18,Z4w,z1,Zt,z1,Zm,z1,Z10,z1,Zx,z1,Z16,z1,Zz,z20,Z3x]
noncomputable def JJ:List V:=(pu1 44 [z18,Z4n] J8)
noncomputable def OB:List V:=[Z2p,Ze]
noncomputable def IX:List (Nat×FO):=[(7,bk 2 [z18,Z4n])]
noncomputable def aaB:Fact:=gu 2 0 29 6 58 J8 OB IX JJ 25
theorem aaA (w0:WM):aZ Tryz.prog T w0 6 255 aaB:=bg hT (hF2 w0) ⟨_,Tryz.func255,by kernel_rfl,rfl⟩ (show iy 6 2 29 6 25 IX JJ=true by kernel_rfl) (show gY T FF2 6 1000 1000 255 2 0 29 6 J8 OB IX JJ 25=true by kernel_rfl) (fun d d'=>show gX T FF2 6 1000 1000 255 2 0 29 6 J8 OB IX JJ 25 d d'=true by kernel_rfl)
noncomputable def kQ:Nat→Option FC:=ovl T 6 255 YW [ahj,ahi,ahh,ahg,ahf,ahe,ahd,ahc,ahb,aha,aaV,aaT,aaR,aaP,aaN,aaL,aaJ,aaH,aaF,aaD,aaB] FF2
set_option maxRecDepth 100000 in
theorem Az (w0:WM):dK Tryz.prog T w0 6 kQ:=dA (hF2 w0) (aJ (ac8 w0) (aJ (ac7 w0) (aJ (ac6 w0) (aJ (ac5 w0) (aJ (ac4 w0) (aJ (ac3 w0) (aJ (ac2 w0) (aJ (ac1 w0) (aJ (ac0 w0) (aJ (acZ w0) (aJ (aaU w0) (aJ (aaS w0) (aJ (aaQ w0) (aJ (aaO w0) (aJ (aaM w0) (aJ (aaK w0) (aJ (aaI w0) (aJ (aaG w0) (aJ (aaE w0) (aJ (aaC w0) (aJ (aaA w0) oO))))))))))))))))))))) (amc w0 6)
end Go.Proofs.YtbhfbliodeagmaaGreatDoor
