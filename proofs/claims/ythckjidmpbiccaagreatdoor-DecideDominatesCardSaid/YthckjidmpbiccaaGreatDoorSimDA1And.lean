/- Sim: facts of function 198 (slices.Insert[[]gameplayer/api.GroundRule,gameplayer/api.GroundRule]). Printed by a program (SimF3.lean). -/
import Derived.Test.YthckjidmpbiccaaGreatDoorSimDA0One
set_option linter.unusedVariables false
set_option linter.unusedSimpArgs false
set_option linter.all false
namespace Go.Proofs.YthckjidmpbiccaaGreatDoor
open Go Go.Sim
noncomputable def Qv:List V:=[Zd,.aj,.aj,Zf,.aj,.aj]
noncomputable def P5:List V:=(pu1 0 [Z1,.aj,.aj] Qv)
noncomputable def Uk:List V:=[Z0,Z3f]
noncomputable def Ot:List (Nat×FO):=[(9,bk 3 [Z1,.aj,.aj])]
noncomputable def afi:Fact:=fH 3 0 2 8 6 Qv Uk Ot P5 10
theorem aaw (w0:World):bg Tryz.prog T w0 8 198 afi:=aX hT (yT w0) ⟨_,Tryz.func198,by kernel_rfl,rfl⟩ (show gI 8 3 2 8 10 Ot P5=true by kernel_rfl) (show gq T jI 8 1000 1000 198 3 0 2 8 Qv Uk Ot P5 10=true by kernel_rfl) (fun d d'=>show fZ T jI 8 1000 1000 198 3 0 2 8 Qv Uk Ot P5 10 d d'=true by kernel_rfl)
noncomputable def Qu:List V:=[Z1,.aj,.aj,Zd,.aj,.aj,Zf,.aj,.aj,Z21,Z46,.aj,Z22,Z4x,.aj,Z23,Z1f,.aj,Z1v,Z3l,.aj,Z24,Z36,.aj]
noncomputable def PZ:List V:=(pu1 9 [Z1w,Z2u,.aj] Qu)
noncomputable def Uj:List V:=[Z5,Z3f]
noncomputable def Oq:List (Nat×FO):=[(9,bk 3 [Z1w,Z2u,.aj])]
noncomputable def afh:Fact:=fH 3 0 8 8 24 Qu Uj Oq PZ 16
theorem aav (w0:World):bg Tryz.prog T w0 8 198 afh:=aX hT (yT w0) ⟨_,Tryz.func198,by kernel_rfl,rfl⟩ (show gI 8 3 8 8 16 Oq PZ=true by kernel_rfl) (show gq T jI 8 1000 1000 198 3 0 8 8 Qu Uj Oq PZ 16=true by kernel_rfl) (fun d d'=>show fZ T jI 8 1000 1000 198 3 0 8 8 Qu Uj Oq PZ 16 d d'=true by kernel_rfl)
noncomputable def Qs:List V:=[Z1,.aj,.aj,Zd,.aj,.aj,Zf,.aj,.aj,Z1w,Z46,.aj,Z21,Z4x,.aj,Z22,Z1f,.aj,Z23,Z3l,.aj,Z1v,Z36,.aj,Z24,Z2u,.aj]
noncomputable def PY:List V:=(pu1 3 [Z5,Z3m,.aj] Qs)
noncomputable def Ui:List V:=[Z1,Z3f]
noncomputable def Oo:List (Nat×FO):=[(9,bk 3 [Z5,Z3m,.aj])]
noncomputable def afg:Fact:=fH 3 0 9 8 27 Qs Ui Oo PY 17
theorem aau (w0:World):bg Tryz.prog T w0 8 198 afg:=aX hT (yT w0) ⟨_,Tryz.func198,by kernel_rfl,rfl⟩ (show gI 8 3 9 8 17 Oo PY=true by kernel_rfl) (show gq T jI 8 1000 1000 198 3 0 9 8 Qs Ui Oo PY 17=true by kernel_rfl) (fun d d'=>show fZ T jI 8 1000 1000 198 3 0 9 8 Qs Ui Oo PY 17 d d'=true by kernel_rfl)
noncomputable def Qr:List V:=[Z1,.aj,.aj,Z5,Z46,.aj,Zd,.aj,.aj,Zf,.aj,.aj,Z1w,Z4x,.aj,Z21,Z1f,.aj,Z22,Z3l,.aj,Z23,Z36,.aj,Z1v,Z2u,.aj,Z24,Z3m,.aj]
noncomputable def PX:List V:=(pu1 6 [Z3,Z37,.aj] Qr)
noncomputable def Uh:List V:=[Z2,Z3f]
noncomputable def Om:List (Nat×FO):=[(9,bk 3 [Z3,Z37,.aj])]
noncomputable def aff:Fact:=fH 3 0 10 8 30 Qr Uh Om PX 18
theorem aat (w0:World):bg Tryz.prog T w0 8 198 aff:=aX hT (yT w0) ⟨_,Tryz.func198,by kernel_rfl,rfl⟩ (show gI 8 3 10 8 18 Om PX=true by kernel_rfl) (show gq T jI 8 1000 1000 198 3 0 10 8 Qr Uh Om PX 18=true by kernel_rfl) (fun d d'=>show fZ T jI 8 1000 1000 198 3 0 10 8 Qr Uh Om PX 18 d d'=true by kernel_rfl)
noncomputable def Qq:List V:=[Z1,.aj,.aj,Z5,Z46,.aj,Z3,Z4x,.aj,Zd,.aj,.aj,Zf,.aj,.aj,Z1w,Z1f,.aj,Z21,Z3l,.aj,Z22,Z36,.aj,Z23,Z2u,.aj,Z1v,Z3m,.aj,Z24,Z37,.aj]
noncomputable def PW:List V:=(pu1 9 [Z4,Z47,.aj] Qq)
noncomputable def Ug:List V:=[Z5,Z3f]
noncomputable def Ol:List (Nat×FO):=[(9,bk 3 [Z4,Z47,.aj])]
noncomputable def afe:Fact:=fH 3 0 11 8 33 Qq Ug Ol PW 19
theorem aas (w0:World):bg Tryz.prog T w0 8 198 afe:=aX hT (yT w0) ⟨_,Tryz.func198,by kernel_rfl,rfl⟩ (show gI 8 3 11 8 19 Ol PW=true by kernel_rfl) (show gq T jI 8 1000 1000 198 3 0 11 8 Qq Ug Ol PW 19=true by kernel_rfl) (fun d d'=>show fZ T jI 8 1000 1000 198 3 0 11 8 Qq Ug Ol PW 19 d d'=true by kernel_rfl)
noncomputable def Qp:List V:=[Z1,.aj,.aj,Z5,Z46,.aj,Z3,Z4x,.aj,Z4,Z1f,.aj,Zd,.aj,.aj,Zf,.aj,.aj,Z1w,Z3l,.aj,Z21,Z36,.aj,Z22,Z2u,.aj,Z23,Z3m,.aj,Z1v,Z37,.aj,Z24,Z47,.aj]
noncomputable def PV:List V:=(pu1 12 [Z9,Z4q,.aj] Qp)
noncomputable def Uf:List V:=[Z3,Z3f]
noncomputable def Oj:List (Nat×FO):=[(9,bk 3 [Z9,Z4q,.aj])]
noncomputable def afd:Fact:=fH 3 0 12 8 36 Qp Uf Oj PV 20
theorem aar (w0:World):bg Tryz.prog T w0 8 198 afd:=aX hT (yT w0) ⟨_,Tryz.func198,by kernel_rfl,rfl⟩ (show gI 8 3 12 8 20 Oj PV=true by kernel_rfl) (show gq T jI 8 1000 1000 198 3 0 12 8 Qp Uf Oj PV 20=true by kernel_rfl) (fun d d'=>show fZ T jI 8 1000 1000 198 3 0 12 8 Qp Uf Oj PV 20 d d'=true by kernel_rfl)
noncomputable def Qo:List V:=[Z1,.aj,.aj,Z5,Z46,.aj,Z3,Z4x,.aj,Z4,Z1f,.aj,Z9,Z3l,.aj,Zd,.aj,.aj,Zf,.aj,.aj,Z1w,Z36,.aj,Z21,Z2u,.aj,Z22,Z3m,.aj,Z23,Z37,.aj,Z1v,Z47,.aj,Z24,Z4q,.aj]
noncomputable def PU:List V:=(pu1 3 [Z2,Z1x,.aj] Qo)
noncomputable def Ue:List V:=[Z1,Z3f]
noncomputable def Oi:List (Nat×FO):=[(9,bk 3 [Z2,Z1x,.aj])]
noncomputable def afc:Fact:=fH 3 0 13 8 39 Qo Ue Oi PU 21
theorem aaq (w0:World):bg Tryz.prog T w0 8 198 afc:=aX hT (yT w0) ⟨_,Tryz.func198,by kernel_rfl,rfl⟩ (show gI 8 3 13 8 21 Oi PU=true by kernel_rfl) (show gq T jI 8 1000 1000 198 3 0 13 8 Qo Ue Oi PU 21=true by kernel_rfl) (fun d d'=>show fZ T jI 8 1000 1000 198 3 0 13 8 Qo Ue Oi PU 21 d d'=true by kernel_rfl)
noncomputable def Qn:List V:=[Z1,.aj,.aj,Z2,(sn 10 1 2),.aj,Z5,Z4x,.aj,Z3,Z1f,.aj,Z4,Z3l,.aj,Z9,Z36,.aj,Zd,.aj,.aj,Zf,.aj,.aj,Z1w,Z2u,.aj,Z21,Z3m,.aj,Z22,Z37,.aj,Z23,Z47,.aj,Z1v,Z4q,.aj,Z24,Z3x,.aj]
noncomputable def PS:List V:=(pu1 6 [Z2,Z1m,.aj] Qn)
noncomputable def Ud:List V:=[Z2,Z3f]
noncomputable def Oh:List (Nat×FO):=[(9,bk 3 [Z2,Z1m,.aj])]
noncomputable def afb:Fact:=fH 3 0 14 8 42 Qn Ud Oh PS 22
theorem aap (w0:World):bg Tryz.prog T w0 8 198 afb:=aX hT (yT w0) ⟨_,Tryz.func198,by kernel_rfl,rfl⟩ (show gI 8 3 14 8 22 Oh PS=true by kernel_rfl) (show gq T jI 8 1000 1000 198 3 0 14 8 Qn Ud Oh PS 22=true by kernel_rfl) (fun d d'=>show fZ T jI 8 1000 1000 198 3 0 14 8 Qn Ud Oh PS 22 d d'=true by kernel_rfl)
noncomputable def Qm:List V:=[Z1,.aj,.aj,Z2,(sn 10 1 2),.aj,Z2,Z74,.aj,Z5,Z1f,.aj,Z3,Z3l,.aj,Z4,Z36,.aj,Z9,Z2u,.aj,Zd,.aj,.aj,Zf,.aj,.aj,Z1w,Z3m,.aj,Z21,Z37,.aj,Z22,Z47,.aj,Z23,Z4q,.aj,Z1v,Z3x,.aj,Z24,Z48,.aj]
noncomputable def PO:List V:=(pu1 0 [Z0,Z2v,.aj] Qm)
noncomputable def Uc:List V:=[Z0,Z3f]
noncomputable def Og:List (Nat×FO):=[(9,bk 3 [Z0,Z2v,.aj])]
noncomputable def afa:Fact:=fH 3 0 15 8 45 Qm Uc Og PO 23
theorem aao (w0:World):bg Tryz.prog T w0 8 198 afa:=aX hT (yT w0) ⟨_,Tryz.func198,by kernel_rfl,rfl⟩ (show gI 8 3 15 8 23 Og PO=true by kernel_rfl) (show gq T jI 8 1000 1000 198 3 0 15 8 Qm Uc Og PO 23=true by kernel_rfl) (fun d d'=>show fZ T jI 8 1000 1000 198 3 0 15 8 Qm Uc Og PO 23 d d'=true by kernel_rfl)
noncomputable def Ql:List V:=[Z0,Z46,.aj,Z1,.aj,.aj,Z2,Z74,.aj,Z2,(sn 12 1 2),.aj,Z5,Z3l,.aj,Z3,Z36,.aj,Z4,Z2u,.aj,Z9,Z3m,.aj,Zd,.aj,.aj,Zf,.aj,.aj,Z1w,Z37,.aj,Z21,Z47,.aj,Z22,Z4q,.aj,Z23,Z3x,.aj,Z1v,Z48,.aj,Z24,Z2v,.aj]
noncomputable def PN:List V:=(pu1 30 [Z35,Z55,.aj] Ql)
noncomputable def Ub:List V:=[Zl,Z3f]
noncomputable def Oe:List (Nat×FO):=[(9,bk 3 [Z35,Z55,.aj])]
noncomputable def ae9:Fact:=fH 3 0 16 8 48 Ql Ub Oe PN 24
theorem aan (w0:World):bg Tryz.prog T w0 8 198 ae9:=aX hT (yT w0) ⟨_,Tryz.func198,by kernel_rfl,rfl⟩ (show gI 8 3 16 8 24 Oe PN=true by kernel_rfl) (show gq T jI 8 1000 1000 198 3 0 16 8 Ql Ub Oe PN 24=true by kernel_rfl) (fun d d'=>show fZ T jI 8 1000 1000 198 3 0 16 8 Ql Ub Oe PN 24 d d'=true by kernel_rfl)
noncomputable def Hy:List V:=[Z0,Z46,.aj,Z1,.aj,.aj,Z2,Z74,.aj,Z2,(sn 12 1 2),.aj,Z5,Z3l,.aj,Z3,Z36,.aj,Z4,Z2u,.aj,Z9,Z3m,.aj,Zd,.aj,.aj,Zf,.aj,.aj,Z35,Z37,.aj,Z1w,Z47,.aj,Z21,Z4q,.aj,Z22,Z3x,.aj,Z23,Z48,.aj,Z1v,Z2v,.aj,Z24,Z55,.aj]
noncomputable def GY:List V:=(pu1 30 [Z3n,Z5s,(sn 25 1 1)] Hy)
noncomputable def Ld:List V:=[Zl,Z3f]
noncomputable def FM:List (Nat×FO):=[(9,bk 3 [Z3n,Z5s,(sn 25 1 1)])]
noncomputable def WL:Fact:=fH 3 0 17 8 51 Hy Ld FM GY 26
theorem WJ (w0:World):bg Tryz.prog T w0 8 198 WL:=aX hT (yT w0) ⟨_,Tryz.func198,by kernel_rfl,rfl⟩ (show gI 8 3 17 8 26 FM GY=true by kernel_rfl) (show gq T jI 8 1000 1000 198 3 0 17 8 Hy Ld FM GY 26=true by kernel_rfl) (fun d d'=>show fZ T jI 8 1000 1000 198 3 0 17 8 Hy Ld FM GY 26 d d'=true by kernel_rfl)
noncomputable def aiq:Nat→Option FC:=ovl T 8 198 VP [afi,afh,afg,aff,afe,afd,afc,afb,afa,ae9,WL] jI
set_option maxRecDepth 100000 in
theorem aiM (w0:World):dJ Tryz.prog T w0 8 aiq:=bT (yT w0) (aN (aaw w0) (aN (aav w0) (aN (aau w0) (aN (aat w0) (aN (aas w0) (aN (aar w0) (aN (aaq w0) (aN (aap w0) (aN (aao w0) (aN (aan w0) (aN (WJ w0) EL))))))))))) (akw w0 8)
end Go.Proofs.YthckjidmpbiccaaGreatDoor
namespace Go.Proofs.YthckjidmpbiccaaGreatDoor
open Go Go.Sim
noncomputable def ae8:List Fact:=[⟨[z14],[],8,bt,[],[],[],14⟩,⟨[z6],[],8,bt,[],[],[],16⟩,⟨[z4],[],8,bt,[],[],[],11⟩,⟨[z18],[],8,bt,[],[],[],14⟩,⟨[z1],[],8,bt,[],[],[],14⟩,⟨[z2],[],8,bt,[],[],[],15⟩,⟨[z9],[],8,bt,[],[],[],14⟩,⟨[z7],[],8,bt,[],[],[],15⟩,⟨[z0],[],8,bt,[],[],[],14⟩,⟨[z8],[],8,bt,[],[],[],15⟩,⟨[z13],[],8,bt,[],[],[],14⟩,⟨[z10],[],8,bt,[],[],[],15⟩,⟨[z5],[],8,bt,[],[],[],14⟩,⟨[z11],[],8,bt,[],[],[],14⟩,⟨[z24],[],8,bf,[],[],[],10⟩,⟨[z3],[],8,bt,[],[],[],14⟩,⟨[z17],[],8,bt,[],[],[],13⟩,⟨[z23],[],8,bt,[],[],[],18⟩,⟨[z19],[],8,bt,[],[],[],14⟩,⟨[z20],[],8,bt,[],[],[],14⟩,⟨[z21],[],8,bt,[],[],[],15⟩,⟨[z12],[],8,bf,[],[],[],10⟩,⟨[z15],[],8,bf,[],[],[],10⟩,⟨[z16],[],8,bf,[],[],[],10⟩,⟨[z26],[],8,bf,[],[],[],10⟩]
theorem dA2_0_ok:List.all ae8 (bI T aiq 8 1000 1000 178)=true:=by kernel_rfl
noncomputable def aaQ:Nat→Option FC:=ovl T 8 178 VQ (ae8) aiq
set_option maxRecDepth 100000 in
theorem ags (w0:World):dJ Tryz.prog T w0 8 aaQ:=bT (aiM w0) (aK hT (aiM w0) (ah8 w0 8) dA2_0_ok) (ah8 w0 8)
end Go.Proofs.YthckjidmpbiccaaGreatDoor
