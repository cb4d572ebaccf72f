/- An abstract reading of the program: what its operations do to what is known of memory. Part 8 of 8. -/
import Derived.Test.YtmnaghfndigfkaaDoorAb7
import Derived.Test.YtmnaghfndigfkaaDoorAb6
import Derived.Lib.Repeat
import Derived.Below

/-
 strings.Repeat, by the contract of the library's shelf, as a contract here.
-/
set_option linter.unusedVariables false
namespace Go.Ab
open Go Go.RowKit

theorem rep_spec {P : Program} {G : GL} (hns : ¬ G.strong) {f : Nat} {fn : Func} {c : Code} (hf : P.funcs[f]? = some fn) (hname : (fn.name == "runtime.NumGoroutine") = false) (hb : fn.body = some c)
  (h1 : ∀ (s : ByteArray) (c : Nat) (w : World), c ≤ 9223372036854775807 → s.size * c ≤ 140737488355328 → Calls P f #[.string s, .int .i64 c] w fun e w' => e = .returned (.string ⟨(Lib.repeatL s.data.toList c).toArray⟩) ∧ Below w.heap.size w w')
  {s : List UInt8} {n : Nat} (hn : n ≤ 1000000000) (hl : s.length * n ≤ 1000000000) : SpecP P G f [.str s, .int .i64 n] (.str (Lib.repeatL s n)) [] := by
 intro F w vs hm hr
 obtain ⟨vl⟩ := vs
 cases hr with
 | cons _ _ x1 r1 hx1 hr =>
  cases hr with
  | cons _ _ x2 r2 hx2 hr2 =>
   cases hr2
   obtain ⟨sb, rfl, hs⟩ : ∃ sb, x1 = .string sb ∧ sb.data.toList = s := by cases hx1 with | str _ s h => exact ⟨s, rfl, h⟩
   have hx2 : x2 = .int .i64 n := by cases hx2; rfl
   subst hx2
   have hsz : sb.size = s.length := by rw [← hs]; exact (Array.length_toList ..).symm
   unfold CallOk
   rw [callFunc_enter hf hname hb]
   refine .inr (.inl ⟨_, _, _, rfl, ?_⟩)
   refine (h1 sb n w (by omega) (by rw [hsz]; omega)).mono ?_
   rintro e w' ⟨rfl, hB⟩
   rw [hs]
   have hfr : ∀ b, F b → w'.heap[b]? = w.heap[b]? := fun b hb => hB.block b (hm.frz b hb)
   exact ⟨_, rfl, F, noR, ⟨fun id o h => (by simp [hsH] at h), fun id b h => (by cases h), fun i j b h => (by cases h), fun id b h => (by cases h), fun b hb => Nat.lt_of_lt_of_le (hm.frz b hb) hB.size, GlobOk.mono hfr (fun _ h => h) hm.glob⟩, ⟨⟨hB.os, hB.output, fun s => absurd s hns⟩, hB.size, fun b hb _ => hB.block b hb, hfr, fun _ h => h, fun _ h => .inl h, fun id b h => by cases h⟩, .imm _ _ (.str _ _ (by simp))⟩
def repF (i : Nat) (f : Nat) (args : List AV) : Option (AV × List Blk) :=
 cond (Nat.beq i f) (match args with
  | [.str s, .int .i64 c] => cond (leb 0 c && (leb c 100000 && Nat.ble (s.length * c.toNat) 1000000)) (some (.str (Lib.repeatL s c.toNat), [])) none
  | _ => none) none
theorem repF_ok {P : Program} {G : GL} {f : Nat} (h : ∀ (s : List UInt8) (n : Nat), n ≤ 1000000000 → s.length * n ≤ 1000000000 → SpecP P G f [.str s, .int .i64 n] (.str (Lib.repeatL s n)) []) :
  ∀ g args v hs, repF f g args = some (v, hs) → SpecP P G g args v hs := by
 intro g args v hs hr
 unfold repF at hr
 rw [cond_eq_ite] at hr
 split at hr
 ·rename_i hg
  have hg := Nat.eq_of_beq_eq_true hg
  subst hg
  split at hr
  ·rename_i s c
   rw [cond_eq_ite] at hr
   split at hr
   ·rename_i hc
    cases hr
    simp only [Bool.and_eq_true] at hc
    have h0 : 0 ≤ c := of_decide_eq_true hc.1
    have h1 : c ≤ 100000 := of_decide_eq_true hc.2.1
    have h2 := Nat.le_of_ble_eq_true hc.2.2
    have := h s c.toNat (by omega) (by omega)
    rw [Int.toNat_of_nonneg h0] at this
    exact this
   ·cases hr
  ·cases hr
 ·cases hr
end Go.Ab
