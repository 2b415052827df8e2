/- strings.Cut at a colon and a blank. -/
import Derived.Test.YtbhfbliodeagmaaGreatDoorProg
import Derived.Shelf.Strings.Cut
import Derived.Shelf.Abstract
import Derived.Ground.NamesProg
import Derived.WalkKit
set_option linter.all false
namespace Go.Proofs
open Go.RowKit Go.Shelf
def Tryz.lays145_ren:Go.Shelf.Ren:=⟨fun | 145=>102 | 220=>162 | 219=>232 | 217=>161 | 225=>293 | 224=>294 | 267=>295 | 266=>231 | 314=>334 | n=>n,fun | 9=>9 | 4=>4 | 59=>160 | 3=>3 | 5=>5 | 46=>156 | 146=>373 | 51=>338 | n=>n,fun | 1=>0 | n=>n⟩
theorem Tryz.lays145:Go.Proofs.Lays.n145 Tryz.prog Tryz.lays145_ren:={
 mixed:=by kernel_rfl
 f145:=Tryz.func102.trans (congrArg some (by kernel_rfl))
 f217:=Tryz.func161.trans (congrArg some (by kernel_rfl))
 f219:=Tryz.func232.trans (congrArg some (by kernel_rfl))
 f220:=Tryz.func162.trans (congrArg some (by kernel_rfl))
 f224:=Tryz.func294.trans (congrArg some (by kernel_rfl))
 f225:=Tryz.func293.trans (congrArg some (by kernel_rfl))
 f266:=Tryz.func231.trans (congrArg some (by kernel_rfl))
 f267:=Tryz.func295.trans (congrArg some (by kernel_rfl))
 f314:=Tryz.func334.trans (congrArg some (by kernel_rfl))
 t3:=Tryz.underlying3
 a3:=Tryz.isAgg3
 z3:=Tryz.sizeOf3
 v3:=Tryz.zeroValue3
 t4:=Tryz.underlying4
 a4:=Tryz.isAgg4
 z4:=Tryz.sizeOf4
 v4:=Tryz.zeroValue4
 t5:=Tryz.underlying5
 a5:=Tryz.isAgg5
 z5:=Tryz.sizeOf5
 v5:=Tryz.zeroValue5
 t9:=Tryz.underlying9
 a9:=Tryz.isAgg9
 z9:=Tryz.sizeOf9
 v9:=Tryz.zeroValue9
 t46:=Tryz.underlying156
 a46:=Tryz.isAgg156
 z46:=Tryz.sizeOf156
 v46:=Tryz.zeroValue156
 t51:=Tryz.underlying338
 a51:=Tryz.isAgg338
 z51:=Tryz.sizeOf338
 v51:=Tryz.zeroValue338
 t59:=Tryz.underlying160
 a59:=Tryz.isAgg160
 z59:=Tryz.sizeOf160
 v59:=Tryz.zeroValue160
 t146:=Tryz.underlying373
 a146:=Tryz.isAgg373
 z146:=Tryz.sizeOf373
 v146:=Tryz.zeroValue373
 g1:=by kernel_rfl }
theorem Tryz.anW (s:ByteArray) (m:Int) (w:World) (hs:s.size<100) (hm:w.cell? ⟨0,0,none⟩=some (.int .i64 m)) :
  Calls Tryz.prog 102 #[.string s,.string ⟨#[58,32]⟩] w fun e w'=>e = .returned (.tuple #[.string ⟨(Lib.cut s.data.toList [58,32]).1.toArray⟩,.string ⟨(Lib.cut s.data.toList [58,32]).2.1.toArray⟩,.bool (Lib.cut s.data.toList [58,32]).2.2])∧∃ n,w'=w.drewN n:=
 Any.strings_Cut Tryz.lays145 s ⟨#[58,32]⟩ m w (by omega) hm
end Go.Proofs
