/-
 What is to be shown of the functions (made by a program).
-/
import Derived.Test.YtfpcbimohikhmaaDoorKZ
import Derived.KernelRfl
import Derived.Test.YtfpcbimohikhmaaDoorC8Z

set_option maxRecDepth 1000000
set_option linter.unusedVariables false
namespace Go.Proofs.YtfpcbimohikhmaaDoor.X
open Go Go.Ab
open List IntKind

theorem ob_os61 (c e c' e' : Int) : fnP (T0) Gs 10000 fe61 (.r [] 0 (.r [] 3 (.cnd (.r [] 3 .nil) (.r [] 5 .nil)))) ([.agg [.int .i64 c, .int .u8 e], .agg [.int .i64 c', .int .u8 e']]) ([.int .i64 (ordI c e c' e')]) ([]) = (
 ((c != c') = true → inR i64 (c - c') = true ∧ c - c' = ordI c e c' e' ∧ True) ∧ ((c != c') = false → inR i64 e = true ∧ inR i64 e' = true ∧ inR i64 (e - e') = true ∧ e - e' = ordI c e c' e' ∧ True)) := by kernel_rfl

theorem ob_os62 (c e k : Int) : fnP (T0) Gs 10000 fe62 (.r [] 0 (.r [] 7 .nil)) ([.agg [.int .i64 c, .int .u8 e, .int .u8 k]]) ([.agg [.int .i64 c, .int .u8 e]]) ([]) = (
 c = c ∧ e = e ∧ True) := by kernel_rfl

theorem ob_os60 (c e k c' e' k' : Int) : fnP (ST1) Gs 10000 fe60 (.r [] 0 (.r [] 15 .nil)) ([.agg [.int .i64 c, .int .u8 e, .int .u8 k], .agg [.int .i64 c', .int .u8 e', .int .u8 k']]) ([.int .i64 (ordI c e c' e')]) ([]) = (
 (sml c ∧ sml c' ∧ 0 ≤ e ∧ e ≤ 255 ∧ 0 ≤ e' ∧ e' ≤ 255) ∧ ordI c e c' e' = ordI c e c' e' ∧ True) := by kernel_rfl

end Go.Proofs.YtfpcbimohikhmaaDoor.X

/-
 Sorting creases: the library's contract, laid (by the kit's own command), under the closure's contract.
-/
set_option maxRecDepth 1000000
set_option linter.unusedVariables false
set_option linter.unusedSimpArgs false
namespace Go.Proofs.YtfpcbimohikhmaaDoor.X
open Go Go.Ab Go.Shelf Go.Proofs

def sortCr_ren : Go.Shelf.Ren := ⟨fun | 6 => 59 | 15 => 94 | 14 => 93 | 28 => 111 | 29 => 112 | 20 => 103 | 21 => 104 | 22 => 105 | 23 => 106 | 24 => 107 | 25 => 108 | 26 => 109 | 27 => 110 | 46 => 123 | 47 => 124 | 48 => 125 | 49 => 126 | 50 => 127 | 57 => 131 | n => n, fun | 22 => 28 | 24 => 53 | 25 => 113 | 3 => 3 | 39 => 163 | 0 => 0 | 53 => 189 | 55 => 191 | 4 => 4 | 46 => 183 | 45 => 182 | 50 => 154 | 5 => 5 | 9 => 9 | 66 => 201 | 70 => 205 | 76 => 209 | 77 => 138 | n => n, fun | n => n⟩
theorem sortCr : Go.Proofs.SlLaysF0.n6 Tryd.prog sortCr_ren := {
 mixed := by kernel_rfl
 f6 := ⟨Tryd.f59.name, by decide, Tryd.func59.trans (congrArg some (by kernel_rfl))⟩
 f14 := ⟨Tryd.f93.name, by decide, Tryd.func93.trans (congrArg some (by kernel_rfl))⟩
 f15 := Tryd.func94.trans (congrArg some (by kernel_rfl))
 f20 := ⟨Tryd.f103.name, by decide, Tryd.func103.trans (congrArg some (by kernel_rfl))⟩
 f21 := ⟨Tryd.f104.name, by decide, Tryd.func104.trans (congrArg some (by kernel_rfl))⟩
 f22 := ⟨Tryd.f105.name, by decide, Tryd.func105.trans (congrArg some (by kernel_rfl))⟩
 f23 := ⟨Tryd.f106.name, by decide, Tryd.func106.trans (congrArg some (by kernel_rfl))⟩
 f24 := ⟨Tryd.f107.name, by decide, Tryd.func107.trans (congrArg some (by kernel_rfl))⟩
 f25 := ⟨Tryd.f108.name, by decide, Tryd.func108.trans (congrArg some (by kernel_rfl))⟩
 f26 := ⟨Tryd.f109.name, by decide, Tryd.func109.trans (congrArg some (by kernel_rfl))⟩
 f27 := ⟨Tryd.f110.name, by decide, Tryd.func110.trans (congrArg some (by kernel_rfl))⟩
 f28 := Tryd.func111.trans (congrArg some (by kernel_rfl))
 f29 := Tryd.func112.trans (congrArg some (by kernel_rfl))
 f46 := ⟨Tryd.f123.name, by decide, Tryd.func123.trans (congrArg some (by kernel_rfl))⟩
 f47 := Tryd.func124.trans (congrArg some (by kernel_rfl))
 f48 := Tryd.func125.trans (congrArg some (by kernel_rfl))
 f49 := ⟨Tryd.f126.name, by decide, Tryd.func126.trans (congrArg some (by kernel_rfl))⟩
 f50 := ⟨Tryd.f127.name, by decide, Tryd.func127.trans (congrArg some (by kernel_rfl))⟩
 f57 := ⟨Tryd.f131.name, by decide, Tryd.func131.trans (congrArg some (by kernel_rfl))⟩
 t0 := Tryd.underlying0
 a0 := Tryd.isAgg0
 z0 := Tryd.sizeOf0
 v0 := Tryd.zeroValue0
 t3 := Tryd.underlying3
 a3 := Tryd.isAgg3
 z3 := Tryd.sizeOf3
 v3 := Tryd.zeroValue3
 t4 := Tryd.underlying4
 a4 := Tryd.isAgg4
 z4 := Tryd.sizeOf4
 v4 := Tryd.zeroValue4
 t5 := Tryd.underlying5
 a5 := Tryd.isAgg5
 z5 := Tryd.sizeOf5
 v5 := Tryd.zeroValue5
 t9 := Tryd.underlying9
 a9 := Tryd.isAgg9
 z9 := Tryd.sizeOf9
 v9 := Tryd.zeroValue9
 t22 := Tryd.underlying28
 a22 := Tryd.isAgg28
 z22 := Tryd.sizeOf28
 v22 := Tryd.zeroValue28
 t25 := Tryd.underlying113
 a25 := Tryd.isAgg113
 z25 := Tryd.sizeOf113
 v25 := Tryd.zeroValue113
 t39 := Tryd.underlying163
 a39 := Tryd.isAgg163
 z39 := Tryd.sizeOf163
 v39 := Tryd.zeroValue163
 t45 := Tryd.underlying182
 a45 := Tryd.isAgg182
 z45 := Tryd.sizeOf182
 v45 := Tryd.zeroValue182
 t46 := Tryd.underlying183
 a46 := Tryd.isAgg183
 z46 := Tryd.sizeOf183
 v46 := Tryd.zeroValue183
 t50 := Tryd.underlying154
 a50 := Tryd.isAgg154
 z50 := Tryd.sizeOf154
 v50 := Tryd.zeroValue154
 t53 := Tryd.underlying189
 a53 := Tryd.isAgg189
 z53 := Tryd.sizeOf189
 v53 := Tryd.zeroValue189
 t55 := Tryd.underlying191
 a55 := Tryd.isAgg191
 z55 := Tryd.sizeOf191
 v55 := Tryd.zeroValue191
 t66 := Tryd.underlying201
 a66 := Tryd.isAgg201
 z66 := Tryd.sizeOf201
 v66 := Tryd.zeroValue201
 t70 := Tryd.underlying205
 a70 := Tryd.isAgg205
 z70 := Tryd.sizeOf205
 v70 := Tryd.zeroValue205
 t76 := Tryd.underlying209
 a76 := Tryd.isAgg209
 z76 := Tryd.sizeOf209
 v76 := Tryd.zeroValue209
 t77 := Tryd.underlying138
 a77 := Tryd.isAgg138
 z77 := Tryd.sizeOf138
 v77 := Tryd.zeroValue138 }

theorem hcs : Gs.cm = cmOf Tryd.prog := rfl
theorem S0ok : TabOk Tryd.prog Gs T0 := tabL_ok (l := []) noCh_ok trivial
theorem s61 : CtOk Tryd.prog Gs 61 e61 := by
 intro args r h hp
 unfold e61 at h
 split at h <;> cases h
 rename_i c e c' e'
 obtain ⟨h1, h2, h3, h4, h5, h6⟩ := hp
 refine (fnP_spec hcs hmx S0ok ok61 rfl (ob_os61 c e c' e') ?_ : SpecP Tryd.prog Gs 61 [_, _] (.int .i64 _) []).caps
 unfold sml at h1 h2
 unfold ordI
 simp only [bne_iff_ne, ne_eq, bne_eq_false_iff_eq, inR_i64, and_true]
 refine ⟨fun h => ⟨by omega, by rw [if_neg h]⟩, fun h => ⟨by omega, by omega, by omega, by rw [if_pos h]⟩⟩
theorem s62 : CtOk Tryd.prog Gs 62 e62 := by
 intro args r h hp
 unfold e62 at h
 split at h <;> cases h
 exact (fnP_spec hcs hmx S0ok ok62 rfl (ob_os62 _ _ _) ⟨rfl, rfl, trivial⟩ : SpecP Tryd.prog Gs 62 [_] (.agg [_, _]) []).caps
theorem ST1ok : TabOk Tryd.prog Gs ST1 := tabL_ok noCh_ok ⟨s61, s62, trivial⟩
theorem s60 (x y : Cb) : SpecP Tryd.prog Gs 60 [.agg (RCb.av x), .agg (RCb.av y)] (.int .i64 (cmpB x y)) [] := by
 obtain ⟨⟨c, e, k⟩, hx⟩ := x
 obtain ⟨⟨c', e', k'⟩, hy⟩ := y
 refine fnP_spec hcs hmx ST1ok ok60 rfl (ob_os60 c e k c' e' k') ?_
 unfold bndC at hx hy
 refine ⟨?_, rfl, trivial⟩
 unfold sml
 simp only at hx hy
 omega
theorem c60 (W : World) (x y : Cb) : Calls Tryd.prog 60 #[.agg (RCb.vl x).toArray, .agg (RCb.vl y).toArray] W fun e w' => e = .returned (.int .i64 (cmpB x y)) ∧ ∃ q os', w' = Go.Sort.grow (W.drewN q) os' :=
 calls_of_strong (G := Gs) trivial (fun _ => rfl) (s60 x y) Tryd.func60 (by kernel_rfl) rfl W
  (.cons _ _ _ _ (.agg _ _ (.cons _ _ _ _ (.int _ _) (.cons _ _ _ _ (.int _ _) (.cons _ _ _ _ (.int _ _) .nil)))) (.cons _ _ _ _ (.agg _ _ (.cons _ _ _ _ (.int _ _) (.cons _ _ _ _ (.int _ _) (.cons _ _ _ _ (.int _ _) .nil)))) .nil))
theorem cmpB_lt (x y : Cb) : cmpB x y < 0 ↔ cdC x.1 < cdC y.1 := by
 obtain ⟨⟨c, e, k⟩, hx⟩ := x
 obtain ⟨⟨c', e', k'⟩, hy⟩ := y
 unfold bndC at hx hy
 exact (ord_cd hx.2.2 hy.2.2).1
theorem swoB : Go.Sort.SWO (ltOf cmpB) where
 irrefl x := by simp only [ltOf, decide_eq_false_iff_not, cmpB_lt]; omega
 trans x y z h1 h2 := by simp only [ltOf, decide_eq_true_eq, cmpB_lt] at *; omega
 ntrans x y z h1 h2 := by simp only [ltOf, decide_eq_false_iff_not, cmpB_lt] at *; omega
theorem toB_val {x : Cr} (h : bndC x) : (toB x).1 = x := by unfold toB; rw [dif_pos h]
theorem flat_toB : ∀ {l : List Cr}, (∀ x ∈ l, bndC x) → (l.map toB).flatMap RCb.av = flatC l
 | [], _ => rfl
 | x :: l, h => by
  have ih := flat_toB (l := l) fun y hy => h y (by simp [hy])
  rw [List.map_cons, List.flatMap_cons, ih]
  have : RCb.av (toB x) = RCr.av x := by
   have := toB_val (h x (by simp))
   show ([(IntKind.i64, (toB x).1.1), (.u8, (toB x).1.2.1), (.u8, (toB x).1.2.2)].map fun p => AV.int p.1 p.2) = _
   rw [this]; rfl
  rw [this]
  unfold flatC
  rw [List.flatMap_cons]
theorem flat_val : ∀ (l : List Cb), l.flatMap RCb.av = flatC (l.map (·.1))
 | [] => rfl
 | x :: l => by
  rw [List.flatMap_cons, flat_val l]
  unfold flatC
  rw [List.map_cons, List.flatMap_cons]; rfl
theorem srtC_ok {l : List Cr} (h : ∀ x ∈ l, bndC x) : (srtC l).Perm l ∧ (srtC l).Pairwise (fun x y => ¬ cdC y < cdC x) := by
 obtain ⟨h1, h2⟩ := sortL_perm swoB (l.map toB)
 unfold srtC
 constructor
 ·have h3 := h1.map (·.1)
  rw [List.map_map] at h3
  have h4 : l.map ((fun x : Cb => x.1) ∘ toB) = l := by
   have : ∀ x ∈ l, ((fun x : Cb => x.1) ∘ toB) x = id x := fun x hx => toB_val (h x hx)
   rw [List.map_congr_left this, List.map_id]
  rw [h4] at h3
  exact h3
 ·rw [List.pairwise_map]
  exact h2.imp fun {x y} h => by rw [← cmpB_lt]; exact h
theorem sp59 {id : Nat} {l : List Cr} {cap : Option Nat} {nl : Option Bool} {bx : Bool} (h : l.length < 1000000000) (hb : ∀ x ∈ l, bndC x) :
  SpecD Tryd.prog G (.fn 59 [] []) [.full id l.length, .fn 60 [] []] [(id, .blk ⟨.vals (flatC l), 3, l.length, cap, nl, true, bx⟩)] (.tup [])
   [(id, .blk ⟨.vals (flatC (srtC l)), 3, l.length, cap, nl, true, bx⟩)] [] := by
 have h := sortF_spec sortCr RCb (by decide) Tryd.isAgg53 Tryd.sizeOf53 cmpB swoB rfl Tryd.func59 (by kernel_rfl) rfl (fun args w => callFunc_enter Tryd.func60 (by kernel_rfl) rfl args w) c60 (id := id) (d := l.map toB) (cap := cap) (nl := nl) (bx := bx) (G := G) (by rw [List.length_map]; exact h)
 rw [List.length_map, flat_toB hb, flat_val] at h
 exact h
theorem ch24ok (w h : Int) (l : List Cr) : ChOk Tryd.prog G (ch24 w h l) := by
 intro hp cv args r hr hq
 unfold ch24 at hr
 split at hr
 ·rw [cond_eq_ite] at hr
  split at hr
  ·rename_i hc
   simp only [Bool.and_eq_true] at hc
   cases Nat.eq_of_beq_eq_true hc.1
   cases Nat.eq_of_beq_eq_true hc.2.1
   cases Nat.eq_of_beq_eq_true hc.2.2
   cases hr
   obtain ⟨rfl, rfl, hz, hb⟩ := hq
   exact sp59 (by omega) hb
  ·cases hr
 ·cases hr
end Go.Proofs.YtfpcbimohikhmaaDoor.X
