/-
 Sorting creases: the library's contract, laid (by the kit's own command), under the closure's contract.
-/
import Derived.Test.YtfafinkgmhkdmaaDoorVO12Z
import Derived.Test.YtfafinkgmhkdmaaDoorVC8Z
set_option maxRecDepth 1000000
set_option linter.unusedVariables false
set_option linter.unusedSimpArgs false
namespace Go.Proofs.YtfafinkgmhkdmaaDoor.X
open Go Go.Ab Go.Shelf Go.Proofs

def sortCr_ren : Go.Shelf.Ren := ⟨fun | 6 => 50 | 15 => 74 | 14 => 73 | 28 => 96 | 29 => 97 | 20 => 88 | 21 => 89 | 22 => 90 | 23 => 91 | 24 => 92 | 25 => 93 | 26 => 94 | 27 => 95 | 46 => 108 | 47 => 109 | 48 => 110 | 49 => 111 | 50 => 112 | 57 => 123 | n => n, fun | 22 => 56 | 24 => 85 | 25 => 89 | 3 => 3 | 39 => 107 | 0 => 0 | 53 => 133 | 55 => 135 | 4 => 4 | 46 => 126 | 45 => 125 | 50 => 130 | 5 => 5 | 9 => 9 | 66 => 143 | 70 => 147 | 76 => 158 | 77 => 159 | n => n, fun | n => n⟩
theorem sortCr : Go.Proofs.SlLaysF0.n6 Tryd.prog sortCr_ren := {
 mixed := by kernel_rfl
 f6 := ⟨Tryd.f50.name, by decide, Tryd.func50.trans (congrArg some (by kernel_rfl))⟩
 f14 := ⟨Tryd.f73.name, by decide, Tryd.func73.trans (congrArg some (by kernel_rfl))⟩
 f15 := Tryd.func74.trans (congrArg some (by kernel_rfl))
 f20 := ⟨Tryd.f88.name, by decide, Tryd.func88.trans (congrArg some (by kernel_rfl))⟩
 f21 := ⟨Tryd.f89.name, by decide, Tryd.func89.trans (congrArg some (by kernel_rfl))⟩
 f22 := ⟨Tryd.f90.name, by decide, Tryd.func90.trans (congrArg some (by kernel_rfl))⟩
 f23 := ⟨Tryd.f91.name, by decide, Tryd.func91.trans (congrArg some (by kernel_rfl))⟩
 f24 := ⟨Tryd.f92.name, by decide, Tryd.func92.trans (congrArg some (by kernel_rfl))⟩
 f25 := ⟨Tryd.f93.name, by decide, Tryd.func93.trans (congrArg some (by kernel_rfl))⟩
 f26 := ⟨Tryd.f94.name, by decide, Tryd.func94.trans (congrArg some (by kernel_rfl))⟩
 f27 := ⟨Tryd.f95.name, by decide, Tryd.func95.trans (congrArg some (by kernel_rfl))⟩
 f28 := Tryd.func96.trans (congrArg some (by kernel_rfl))
 f29 := Tryd.func97.trans (congrArg some (by kernel_rfl))
 f46 := ⟨Tryd.f108.name, by decide, Tryd.func108.trans (congrArg some (by kernel_rfl))⟩
 f47 := Tryd.func109.trans (congrArg some (by kernel_rfl))
 f48 := Tryd.func110.trans (congrArg some (by kernel_rfl))
 f49 := ⟨Tryd.f111.name, by decide, Tryd.func111.trans (congrArg some (by kernel_rfl))⟩
 f50 := ⟨Tryd.f112.name, by decide, Tryd.func112.trans (congrArg some (by kernel_rfl))⟩
 f57 := ⟨Tryd.f123.name, by decide, Tryd.func123.trans (congrArg some (by kernel_rfl))⟩
 t0 := Tryd.underlying0
 a0 := Tryd.isAgg0
 z0 := Tryd.sizeOf0
 v0 := Tryd.zeroValue0
 t3 := Tryd.underlying3
 a3 := Tryd.isAgg3
 z3 := Tryd.sizeOf3
 v3 := Tryd.zeroValue3
 t4 := Tryd.underlying4
 a4 := Tryd.isAgg4
 z4 := Tryd.sizeOf4
 v4 := Tryd.zeroValue4
 t5 := Tryd.underlying5
 a5 := Tryd.isAgg5
 z5 := Tryd.sizeOf5
 v5 := Tryd.zeroValue5
 t9 := Tryd.underlying9
 a9 := Tryd.isAgg9
 z9 := Tryd.sizeOf9
 v9 := Tryd.zeroValue9
 t22 := Tryd.underlying56
 a22 := Tryd.isAgg56
 z22 := Tryd.sizeOf56
 v22 := Tryd.zeroValue56
 t25 := Tryd.underlying89
 a25 := Tryd.isAgg89
 z25 := Tryd.sizeOf89
 v25 := Tryd.zeroValue89
 t39 := Tryd.underlying107
 a39 := Tryd.isAgg107
 z39 := Tryd.sizeOf107
 v39 := Tryd.zeroValue107
 t45 := Tryd.underlying125
 a45 := Tryd.isAgg125
 z45 := Tryd.sizeOf125
 v45 := Tryd.zeroValue125
 t46 := Tryd.underlying126
 a46 := Tryd.isAgg126
 z46 := Tryd.sizeOf126
 v46 := Tryd.zeroValue126
 t50 := Tryd.underlying130
 a50 := Tryd.isAgg130
 z50 := Tryd.sizeOf130
 v50 := Tryd.zeroValue130
 t53 := Tryd.underlying133
 a53 := Tryd.isAgg133
 z53 := Tryd.sizeOf133
 v53 := Tryd.zeroValue133
 t55 := Tryd.underlying135
 a55 := Tryd.isAgg135
 z55 := Tryd.sizeOf135
 v55 := Tryd.zeroValue135
 t66 := Tryd.underlying143
 a66 := Tryd.isAgg143
 z66 := Tryd.sizeOf143
 v66 := Tryd.zeroValue143
 t70 := Tryd.underlying147
 a70 := Tryd.isAgg147
 z70 := Tryd.sizeOf147
 v70 := Tryd.zeroValue147
 t76 := Tryd.underlying158
 a76 := Tryd.isAgg158
 z76 := Tryd.sizeOf158
 v76 := Tryd.zeroValue158
 t77 := Tryd.underlying159
 a77 := Tryd.isAgg159
 z77 := Tryd.sizeOf159
 v77 := Tryd.zeroValue159 }

theorem hcs : Gs.cm = cmOf Tryd.prog := rfl
theorem S0ok : TabOk Tryd.prog Gs T0 := tabL_ok (l := []) noCh_ok trivial
theorem s75 : CtOk Tryd.prog Gs 75 (eNaN .i64) := by
 intro args r h hp
 unfold eNaN at h
 split at h
 ·rw [cond_eq_ite] at h
  split at h
  ·rename_i hk
   cases beqK_ok hk
   cases h
   refine fnP_spec hcs hmx S0ok ok75 rfl (ob_os75 _) ?_
   simp
  ·cases h
 ·cases h
theorem s76 : CtOk Tryd.prog Gs 76 (eNaN .u8) := by
 intro args r h hp
 unfold eNaN at h
 split at h
 ·rw [cond_eq_ite] at h
  split at h
  ·rename_i hk
   cases beqK_ok hk
   cases h
   refine fnP_spec hcs hmx S0ok ok76 rfl (ob_os76 _) ?_
   simp
  ·cases h
 ·cases h
theorem sAok : CtsOk Tryd.prog Gs sA' := ⟨s75, s76, trivial⟩
theorem SAok : TabOk Tryd.prog Gs SA' := tabL_ok noCh_ok sAok
theorem s52 : CtOk Tryd.prog Gs 52 (eCmpI .i64) := by
 intro args r h hp
 unfold eCmpI at h
 split at h
 ·rw [cond_eq_ite] at h
  split at h
  ·rename_i hk
   rw [Bool.and_eq_true] at hk
   cases beqK_ok hk.1; cases beqK_ok hk.2
   cases h
   exact fnP_spec hcs hmx SAok ok52 rfl (ob_os52 _ _) (cmp_ob _ _)
  ·cases h
 ·cases h
theorem s53 : CtOk Tryd.prog Gs 53 (eCmpI .u8) := by
 intro args r h hp
 unfold eCmpI at h
 split at h
 ·rw [cond_eq_ite] at h
  split at h
  ·rename_i hk
   rw [Bool.and_eq_true] at hk
   cases beqK_ok hk.1; cases beqK_ok hk.2
   cases h
   exact fnP_spec hcs hmx SAok ok53 rfl (ob_os53 _ _) (cmp_ob _ _)
  ·cases h
 ·cases h
theorem s47 : CtOk Tryd.prog Gs 47 e47 := by
 intro args r h hp
 unfold e47 at h
 split at h <;> cases h
 rename_i x y _
 have : SpecP Tryd.prog Gs 47 [.imm (.ints .i64 [x, y]) 2 none] (.int .i64 (orI x y)) [] := by
  refine fnP_spec hcs hmx S0ok ok47 rfl (ob_os47 x y) ?_
  by_cases hx : x = 0
  ·by_cases hy : y = 0 <;> simp [orI, hx, hy]
  ·simp [orI, hx]
 exact this.caps
theorem SBok : TabOk Tryd.prog Gs SB' := tabL_ok noCh_ok ⟨s52, s53, s47, sAok⟩
theorem s51 (x y : Cr) : SpecP Tryd.prog Gs 51 [crV x, crV y] (.int .i64 (cmpCr x y)) [] := by
 refine fnP_spec hcs hmx SBok ok51 rfl (ob_os51 x y) ?_
 simp
theorem c51 (W : World) (x y : Cr) : Calls Tryd.prog 51 #[.agg (RCr.vl x).toArray, .agg (RCr.vl y).toArray] W fun e w' => e = .returned (.int .i64 (cmpCr x y)) ∧ ∃ q os', w' = Go.Sort.grow (W.drewN q) os' :=
 calls_of_strong (G := Gs) trivial (fun _ => rfl) (s51 x y) Tryd.func51 (by kernel_rfl) rfl W
  (.cons _ _ _ _ (.agg _ _ (.cons _ _ _ _ (.int _ _) (.cons _ _ _ _ (.int _ _) (.cons _ _ _ _ (.int _ _) .nil)))) (.cons _ _ _ _ (.agg _ _ (.cons _ _ _ _ (.int _ _) (.cons _ _ _ _ (.int _ _) (.cons _ _ _ _ (.int _ _) .nil)))) .nil))
theorem cmpCr_lt (x y : Cr) : cmpCr x y < 0 ↔ x.1 < y.1 ∨ (x.1 = y.1 ∧ x.2.1 < y.2.1) := by
 unfold cmpCr orI cmpI
 repeat' split
 all_goals omega
theorem swoCr : Go.Sort.SWO (ltOf cmpCr) where
 irrefl x := by simp only [ltOf, decide_eq_false_iff_not, cmpCr_lt]; omega
 trans x y z h1 h2 := by simp only [ltOf, decide_eq_true_eq, cmpCr_lt] at *; omega
 ntrans x y z h1 h2 := by simp only [ltOf, decide_eq_false_iff_not, cmpCr_lt] at *; omega
theorem sp50 {id : Nat} {d : List Cr} {cap : Option Nat} {nl : Option Bool} {bx : Bool} (h : d.length < 1000000000) :
  SpecD Tryd.prog G (.fn 50 [] []) [.full id d.length, .fn 51 [] []] [(id, .blk ⟨.vals (flatC d), 3, d.length, cap, nl, true, bx⟩)] (.tup [])
   [(id, .blk ⟨.vals (flatC (sortL cmpCr d)), 3, d.length, cap, nl, true, bx⟩)] [] :=
 sortF_spec sortCr RCr (by decide) Tryd.isAgg85 Tryd.sizeOf85 cmpCr swoCr rfl Tryd.func50 (by kernel_rfl) rfl (fun args w => callFunc_enter Tryd.func51 (by kernel_rfl) rfl args w) c51 h
theorem ch30ok (a k : List Int) (f : Int) : ChOk Tryd.prog G (ch30 a k f) := by
 intro h cv args r hr hp
 unfold ch30 at hr
 split at hr
 ·rw [cond_eq_ite] at hr
  split at hr
  ·rename_i hc
   simp only [Bool.and_eq_true] at hc
   cases Nat.eq_of_beq_eq_true hc.1
   cases Nat.eq_of_beq_eq_true hc.2.1
   cases Nat.eq_of_beq_eq_true hc.2.2
   cases hr
   obtain ⟨rfl, rfl, hz⟩ := hp
   exact sp50 hz
  ·cases hr
 ·cases hr
end Go.Proofs.YtfafinkgmhkdmaaDoor.X
