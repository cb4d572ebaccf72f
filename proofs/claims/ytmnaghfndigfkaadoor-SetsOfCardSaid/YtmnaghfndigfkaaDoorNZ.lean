/-
 strings.Repeat by the shelf's contract (laid by the kit's own command).
-/
import Derived.Test.YtmnaghfndigfkaaDoorDZ
import Derived.Test.YtmnaghfndigfkaaDoorAb8
import Derived.KernelRfl
import Derived.Shelf.Strings.Repeat
set_option maxRecDepth 1000000
set_option linter.unusedVariables false
namespace Go.Proofs.YtmnaghfndigfkaaDoor.X
open Go Go.Ab
open Go.Shelf Go.Proofs
def lays105_ren : Go.Shelf.Ren := ⟨fun | 105 => 101 | 212 => 139 | 99 => 140 | 165 => 141 | 166 => 142 | 170 => 143 | 169 => 144 | 263 => 177 | 264 => 178 | 206 => 179 | 240 => 180 | 241 => 181 | 276 => 206 | 277 => 207 | n => n, fun | 9 => 9 | 3 => 3 | 4 => 4 | 20 => 20 | 0 => 0 | 46 => 139 | 109 => 193 | 5 => 5 | 72 => 198 | 76 => 202 | 51 => 227 | 146 => 242 | 53 => 229 | 148 => 244 | 70 => 196 | 37 => 105 | 75 => 201 | 127 => 246 | 164 => 259 | 80 => 205 | n => n, fun | n => n⟩
theorem lays105 : Lays.n105 Tryd.prog lays105_ren := {
 mixed := by kernel_rfl
 f99 := Tryd.func140.trans (congrArg some (by kernel_rfl))
 f105 := Tryd.func101.trans (congrArg some (by kernel_rfl))
 f165 := Tryd.func141.trans (congrArg some (by kernel_rfl))
 f166 := Tryd.func142.trans (congrArg some (by kernel_rfl))
 f169 := Tryd.func144.trans (congrArg some (by kernel_rfl))
 f170 := Tryd.func143.trans (congrArg some (by kernel_rfl))
 f206 := Tryd.func179.trans (congrArg some (by kernel_rfl))
 f212 := Tryd.func139.trans (congrArg some (by kernel_rfl))
 f240 := Tryd.func180.trans (congrArg some (by kernel_rfl))
 f241 := Tryd.func181.trans (congrArg some (by kernel_rfl))
 f263 := Tryd.func177.trans (congrArg some (by kernel_rfl))
 f264 := Tryd.func178.trans (congrArg some (by kernel_rfl))
 f276 := Tryd.func206.trans (congrArg some (by kernel_rfl))
 f277 := Tryd.func207.trans (congrArg some (by kernel_rfl))
 t0 := Tryd.underlying0
 a0 := Tryd.isAgg0
 z0 := Tryd.sizeOf0
 v0 := Tryd.zeroValue0
 t3 := Tryd.underlying3
 a3 := Tryd.isAgg3
 z3 := Tryd.sizeOf3
 v3 := Tryd.zeroValue3
 t4 := Tryd.underlying4
 a4 := Tryd.isAgg4
 z4 := Tryd.sizeOf4
 v4 := Tryd.zeroValue4
 t5 := Tryd.underlying5
 a5 := Tryd.isAgg5
 z5 := Tryd.sizeOf5
 v5 := Tryd.zeroValue5
 t9 := Tryd.underlying9
 a9 := Tryd.isAgg9
 z9 := Tryd.sizeOf9
 v9 := Tryd.zeroValue9
 t20 := Tryd.underlying20
 a20 := Tryd.isAgg20
 z20 := Tryd.sizeOf20
 v20 := Tryd.zeroValue20
 t37 := Tryd.underlying105
 a37 := Tryd.isAgg105
 z37 := Tryd.sizeOf105
 v37 := Tryd.zeroValue105
 t46 := Tryd.underlying139
 a46 := Tryd.isAgg139
 z46 := Tryd.sizeOf139
 v46 := Tryd.zeroValue139
 t51 := Tryd.underlying227
 a51 := Tryd.isAgg227
 z51 := Tryd.sizeOf227
 v51 := Tryd.zeroValue227
 t53 := Tryd.underlying229
 a53 := Tryd.isAgg229
 z53 := Tryd.sizeOf229
 v53 := Tryd.zeroValue229
 t70 := Tryd.underlying196
 a70 := Tryd.isAgg196
 z70 := Tryd.sizeOf196
 v70 := Tryd.zeroValue196
 t72 := Tryd.underlying198
 a72 := Tryd.isAgg198
 z72 := Tryd.sizeOf198
 v72 := Tryd.zeroValue198
 t75 := Tryd.underlying201
 a75 := Tryd.isAgg201
 z75 := Tryd.sizeOf201
 v75 := Tryd.zeroValue201
 t76 := Tryd.underlying202
 a76 := Tryd.isAgg202
 z76 := Tryd.sizeOf202
 v76 := Tryd.zeroValue202
 t109 := Tryd.underlying193
 a109 := Tryd.isAgg193
 z109 := Tryd.sizeOf193
 v109 := Tryd.zeroValue193
 t127 := Tryd.underlying246
 a127 := Tryd.isAgg246
 z127 := Tryd.sizeOf246
 v127 := Tryd.zeroValue246
 t146 := Tryd.underlying242
 a146 := Tryd.isAgg242
 z146 := Tryd.sizeOf242
 v146 := Tryd.zeroValue242
 t148 := Tryd.underlying244
 a148 := Tryd.isAgg244
 z148 := Tryd.sizeOf244
 v148 := Tryd.zeroValue244
 t164 := Tryd.underlying259
 a164 := Tryd.isAgg259
 z164 := Tryd.sizeOf259
 v164 := Tryd.zeroValue259 }
theorem extra105 : Builder.Extra Tryd.prog lays105_ren := {
 sizeBuilder := by kernel_rfl
 liesBuilder := by kernel_rfl
 t5 := Tryd.underlying5
 a5 := Tryd.isAgg5
 z5 := Tryd.sizeOf5
 v5 := Tryd.zeroValue5
 infoByte := by kernel_rfl
 cellsByte := by kernel_rfl
 sizeByte := by kernel_rfl
 neB5 := by decide }
theorem sp101 {s : List UInt8} {n : Nat} (hn : n ≤ 1000000000) (hl : s.length * n ≤ 1000000000) : SpecP Tryd.prog G 101 [.str s, .int .i64 n] (.str (Lib.repeatL s n)) [] :=
 rep_spec (fun h => h) Tryd.func101 (by kernel_rfl) rfl (fun s c w h1 h2 => Any.strings_Repeat lays105 extra105 s c w h1 h2) hn hl
def me0 : TB := memoT (repF 101)
theorem me0Ok : TBok Tryd.prog G me0 := memoT_ok (repF_ok fun s n h1 h2 => sp101 h1 h2)
end Go.Proofs.YtmnaghfndigfkaaDoor.X
