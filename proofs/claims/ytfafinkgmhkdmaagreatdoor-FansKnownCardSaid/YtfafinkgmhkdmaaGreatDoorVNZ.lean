/-
 The native functions; strings.Join by the shelf's contract (laid by the kit's own command).
-/
import Derived.Test.YtfafinkgmhkdmaaGreatDoorVDZ
import Derived.Test.YtfafinkgmhkdmaaGreatDoorAb7
import Derived.Shelf.Strings.OnBuilder
set_option maxRecDepth 1000000
namespace Go.Proofs.YtfafinkgmhkdmaaGreatDoor.X
open Go Go.Ab
theorem C3t:A6p Tryz.prog (B2G 136):=
 B5p Tryz.func136 (by kernel_rfl) (by kernel_rfl) (by kernel_rfl) (by kernel_rfl)
theorem C3u:A6p Tryz.prog (B2H 147):=
 B5q Tryz.func147 (by kernel_rfl) (by kernel_rfl) (by kernel_rfl) (by kernel_rfl)
def B0l:Nat->List AV->Option AV:=B9A (B2G 136) (B2H 147)
theorem A1W:A6p Tryz.prog B0l:=B7k C3t C3u
open Go.Shelf Go.Proofs
def A6x:Go.Shelf.Ren:=⟨fun|156=>63|165=>99|166=>100|169=>101|240=>126|241=>127|276=>139|277=>140|n=>n,fun|31=>118|9=>9|3=>3|4=>4|0=>0|20=>20|72=>166|76=>170|70=>164|37=>22|75=>169|127=>192|164=>203|5=>5|80=>172|n=>n,fun|n=>n⟩
theorem B5B:Lays.n156 Tryz.prog A6x:={
 mixed:=by kernel_rfl
 f156:=Tryz.func63.trans (congrArg some (by kernel_rfl))
 f165:=Tryz.func99.trans (congrArg some (by kernel_rfl))
 f166:=Tryz.func100.trans (congrArg some (by kernel_rfl))
 f169:=Tryz.func101.trans (congrArg some (by kernel_rfl))
 f240:=Tryz.func126.trans (congrArg some (by kernel_rfl))
 f241:=Tryz.func127.trans (congrArg some (by kernel_rfl))
 f276:=Tryz.func139.trans (congrArg some (by kernel_rfl))
 f277:=Tryz.func140.trans (congrArg some (by kernel_rfl))
 t0:=Tryz.underlying0
 a0:=Tryz.isAgg0
 z0:=Tryz.sizeOf0
 v0:=Tryz.zeroValue0
 t3:=Tryz.underlying3
 a3:=Tryz.isAgg3
 z3:=Tryz.sizeOf3
 v3:=Tryz.zeroValue3
 t4:=Tryz.underlying4
 a4:=Tryz.isAgg4
 z4:=Tryz.sizeOf4
 v4:=Tryz.zeroValue4
 t9:=Tryz.underlying9
 a9:=Tryz.isAgg9
 z9:=Tryz.sizeOf9
 v9:=Tryz.zeroValue9
 t20:=Tryz.underlying20
 a20:=Tryz.isAgg20
 z20:=Tryz.sizeOf20
 v20:=Tryz.zeroValue20
 t31:=Tryz.underlying118
 a31:=Tryz.isAgg118
 z31:=Tryz.sizeOf118
 v31:=Tryz.zeroValue118
 t37:=Tryz.underlying22
 a37:=Tryz.isAgg22
 z37:=Tryz.sizeOf22
 v37:=Tryz.zeroValue22
 t70:=Tryz.underlying164
 a70:=Tryz.isAgg164
 z70:=Tryz.sizeOf164
 v70:=Tryz.zeroValue164
 t72:=Tryz.underlying166
 a72:=Tryz.isAgg166
 z72:=Tryz.sizeOf166
 v72:=Tryz.zeroValue166
 t75:=Tryz.underlying169
 a75:=Tryz.isAgg169
 z75:=Tryz.sizeOf169
 v75:=Tryz.zeroValue169
 t76:=Tryz.underlying170
 a76:=Tryz.isAgg170
 z76:=Tryz.sizeOf170
 v76:=Tryz.zeroValue170
 t127:=Tryz.underlying192
 a127:=Tryz.isAgg192
 z127:=Tryz.sizeOf192
 v127:=Tryz.zeroValue192
 t164:=Tryz.underlying203
 a164:=Tryz.isAgg203
 z164:=Tryz.sizeOf203
 v164:=Tryz.zeroValue203}
theorem B2M:Builder.Extra Tryz.prog A6x:={
 sizeBuilder:=by kernel_rfl
 liesBuilder:=by kernel_rfl
 t5:=Tryz.underlying5
 a5:=Tryz.isAgg5
 z5:=Tryz.sizeOf5
 v5:=Tryz.zeroValue5
 infoByte:=by kernel_rfl
 cellsByte:=by kernel_rfl
 sizeByte:=by kernel_rfl
 neB5:=by decide}
theorem B5C:∀g args v hs,B3N 63 g args=some (v,hs)->SpecP Tryz.prog G g args v hs:=
 B7q (fun h=>h) Tryz.func63 (by kernel_rfl) rfl (fun a c sep w=>Any.strings_Join_none B5B B2M a c sep w) (fun bk o c xs sep w h1 h2 h3 h4 h5=>Any.strings_Join B5B B2M bk o c xs sep w h1 h2 h3 h4 h5)
def me0:TB:=A6Z (B3N 63)
theorem A6y:B2x Tryz.prog G me0:=A5n B5C
end Go.Proofs.YtfafinkgmhkdmaaGreatDoor.X
