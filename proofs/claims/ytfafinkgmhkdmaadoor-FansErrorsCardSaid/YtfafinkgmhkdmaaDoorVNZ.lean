/-
 The native functions; strings.Join by the shelf's contract (laid by the kit's own command).
-/
import Derived.Test.YtfafinkgmhkdmaaDoorVDZ
import Derived.Test.YtfafinkgmhkdmaaDoorAb5
import Derived.Test.YtfafinkgmhkdmaaDoorAb6
import Derived.KernelRfl
import Derived.Shelf.Strings.OnBuilder
set_option maxRecDepth 1000000
namespace Go.Proofs.YtfafinkgmhkdmaaDoor.X
open Go Go.Ab
theorem nat107 : NatOk Tryd.prog (natIdx 107) :=
 natIdx_ok Tryd.func107 (by kernel_rfl) (by kernel_rfl) (by kernel_rfl) (by kernel_rfl)
theorem nat121 : NatOk Tryd.prog (natCnt 121) :=
 natCnt_ok Tryd.func121 (by kernel_rfl) (by kernel_rfl) (by kernel_rfl) (by kernel_rfl)
def nats : Nat → List AV → Option AV := natOr (natIdx 107) (natCnt 121)
theorem natsOk : NatOk Tryd.prog nats := natOr_ok nat107 nat121
open Go.Shelf Go.Proofs
def lays156_ren : Go.Shelf.Ren := ⟨fun | 156 => 57 | 165 => 77 | 166 => 78 | 169 => 79 | 240 => 98 | 241 => 99 | 276 => 113 | 277 => 114 | n => n, fun | 31 => 66 | 9 => 9 | 3 => 3 | 4 => 4 | 0 => 0 | 20 => 20 | 72 => 112 | 76 => 116 | 70 => 110 | 37 => 22 | 75 => 115 | 127 => 136 | 164 => 149 | 5 => 5 | 80 => 118 | n => n, fun | n => n⟩
theorem lays156 : Lays.n156 Tryd.prog lays156_ren := {
 mixed := by kernel_rfl
 f156 := Tryd.func57.trans (congrArg some (by kernel_rfl))
 f165 := Tryd.func77.trans (congrArg some (by kernel_rfl))
 f166 := Tryd.func78.trans (congrArg some (by kernel_rfl))
 f169 := Tryd.func79.trans (congrArg some (by kernel_rfl))
 f240 := Tryd.func98.trans (congrArg some (by kernel_rfl))
 f241 := Tryd.func99.trans (congrArg some (by kernel_rfl))
 f276 := Tryd.func113.trans (congrArg some (by kernel_rfl))
 f277 := Tryd.func114.trans (congrArg some (by kernel_rfl))
 t0 := Tryd.underlying0
 a0 := Tryd.isAgg0
 z0 := Tryd.sizeOf0
 v0 := Tryd.zeroValue0
 t3 := Tryd.underlying3
 a3 := Tryd.isAgg3
 z3 := Tryd.sizeOf3
 v3 := Tryd.zeroValue3
 t4 := Tryd.underlying4
 a4 := Tryd.isAgg4
 z4 := Tryd.sizeOf4
 v4 := Tryd.zeroValue4
 t9 := Tryd.underlying9
 a9 := Tryd.isAgg9
 z9 := Tryd.sizeOf9
 v9 := Tryd.zeroValue9
 t20 := Tryd.underlying20
 a20 := Tryd.isAgg20
 z20 := Tryd.sizeOf20
 v20 := Tryd.zeroValue20
 t31 := Tryd.underlying66
 a31 := Tryd.isAgg66
 z31 := Tryd.sizeOf66
 v31 := Tryd.zeroValue66
 t37 := Tryd.underlying22
 a37 := Tryd.isAgg22
 z37 := Tryd.sizeOf22
 v37 := Tryd.zeroValue22
 t70 := Tryd.underlying110
 a70 := Tryd.isAgg110
 z70 := Tryd.sizeOf110
 v70 := Tryd.zeroValue110
 t72 := Tryd.underlying112
 a72 := Tryd.isAgg112
 z72 := Tryd.sizeOf112
 v72 := Tryd.zeroValue112
 t75 := Tryd.underlying115
 a75 := Tryd.isAgg115
 z75 := Tryd.sizeOf115
 v75 := Tryd.zeroValue115
 t76 := Tryd.underlying116
 a76 := Tryd.isAgg116
 z76 := Tryd.sizeOf116
 v76 := Tryd.zeroValue116
 t127 := Tryd.underlying136
 a127 := Tryd.isAgg136
 z127 := Tryd.sizeOf136
 v127 := Tryd.zeroValue136
 t164 := Tryd.underlying149
 a164 := Tryd.isAgg149
 z164 := Tryd.sizeOf149
 v164 := Tryd.zeroValue149 }
theorem extra156 : Builder.Extra Tryd.prog lays156_ren := {
 sizeBuilder := by kernel_rfl
 liesBuilder := by kernel_rfl
 t5 := Tryd.underlying5
 a5 := Tryd.isAgg5
 z5 := Tryd.sizeOf5
 v5 := Tryd.zeroValue5
 infoByte := by kernel_rfl
 cellsByte := by kernel_rfl
 sizeByte := by kernel_rfl
 neB5 := by decide }
theorem joinOk : ∀ g args v hs, joinF 57 g args = some (v, hs) → SpecP Tryd.prog G g args v hs :=
 joinF_ok (fun h => h) Tryd.func57 (by kernel_rfl) rfl (fun a c sep w => Any.strings_Join_none lays156 extra156 a c sep w) (fun bk o c xs sep w h1 h2 h3 h4 h5 => Any.strings_Join lays156 extra156 bk o c xs sep w h1 h2 h3 h4 h5)
def me0 : TB := memoT (joinF 57)
theorem me0Ok : TBok Tryd.prog G me0 := memoT_ok joinOk
end Go.Proofs.YtfafinkgmhkdmaaDoor.X
