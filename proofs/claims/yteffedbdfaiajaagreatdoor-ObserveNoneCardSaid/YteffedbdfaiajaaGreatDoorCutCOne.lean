/- strings.Cut at a colon and a blank. -/
import Derived.Test.YteffedbdfaiajaaGreatDoorProg
import Derived.Shelf.Strings.Cut
import Derived.Shelf.Abstract
import Derived.Ground.NamesProg
import Derived.WalkKit
set_option linter.unusedVariables false
set_option linter.unusedSimpArgs false
set_option linter.all false
namespace Go.Proofs
open Go.RowKit Go.Shelf
def Tryz.lays145_ren:Go.Shelf.Ren:=⟨fun | 145=>89 | 220=>146 | 219=>213 | 217=>145 | 225=>274 | 224=>275 | 267=>276 | 266=>212 | 314=>315 | n=>n,fun | 9=>9 | 4=>4 | 59=>157 | 3=>3 | 5=>5 | 46=>123 | 146=>372 | 51=>300 | n=>n,fun | 1=>0 | n=>n⟩
theorem Tryz.lays145:Go.Proofs.Lays.n145 Tryz.prog Tryz.lays145_ren:={
 mixed:=by kernel_rfl
 f145:=Tryz.func89.trans (congrArg some (by kernel_rfl))
 f217:=Tryz.func145.trans (congrArg some (by kernel_rfl))
 f219:=Tryz.func213.trans (congrArg some (by kernel_rfl))
 f220:=Tryz.func146.trans (congrArg some (by kernel_rfl))
 f224:=Tryz.func275.trans (congrArg some (by kernel_rfl))
 f225:=Tryz.func274.trans (congrArg some (by kernel_rfl))
 f266:=Tryz.func212.trans (congrArg some (by kernel_rfl))
 f267:=Tryz.func276.trans (congrArg some (by kernel_rfl))
 f314:=Tryz.func315.trans (congrArg some (by kernel_rfl))
 t3:=Tryz.underlying3
 a3:=Tryz.isAgg3
 z3:=Tryz.sizeOf3
 v3:=Tryz.zeroValue3
 t4:=Tryz.underlying4
 a4:=Tryz.isAgg4
 z4:=Tryz.sizeOf4
 v4:=Tryz.zeroValue4
 t5:=Tryz.underlying5
 a5:=Tryz.isAgg5
 z5:=Tryz.sizeOf5
 v5:=Tryz.zeroValue5
 t9:=Tryz.underlying9
 a9:=Tryz.isAgg9
 z9:=Tryz.sizeOf9
 v9:=Tryz.zeroValue9
 t46:=Tryz.underlying123
 a46:=Tryz.isAgg123
 z46:=Tryz.sizeOf123
 v46:=Tryz.zeroValue123
 t51:=Tryz.underlying300
 a51:=Tryz.isAgg300
 z51:=Tryz.sizeOf300
 v51:=Tryz.zeroValue300
 t59:=Tryz.underlying157
 a59:=Tryz.isAgg157
 z59:=Tryz.sizeOf157
 v59:=Tryz.zeroValue157
 t146:=Tryz.underlying372
 a146:=Tryz.isAgg372
 z146:=Tryz.sizeOf372
 v146:=Tryz.zeroValue372
 g1:=by kernel_rfl }
theorem Tryz.aeO (s:ByteArray) (m:Int) (w:World) (hs:s.size<100) (hm:w.cell? ⟨0,0,none⟩=some (.int .i64 m)) :
  Calls Tryz.prog 89 #[.string s,.string ⟨#[58,32]⟩] w fun e w'=>e = .returned (.tuple #[.string ⟨(Lib.cut s.data.toList [58,32]).1.toArray⟩,.string ⟨(Lib.cut s.data.toList [58,32]).2.1.toArray⟩,.bool (Lib.cut s.data.toList [58,32]).2.2])∧∃ n,w'=w.drewN n:=
 Any.strings_Cut Tryz.lays145 s ⟨#[58,32]⟩ m w (by omega) hm
end Go.Proofs
