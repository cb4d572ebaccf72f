/-
 A move keeps what is connected.
-/
import Derived.Test.YtmnaghfndigfkaaDoorCWZ
import Derived.Test.YtmnaghfndigfkaaDoorPNZ
set_option maxRecDepth 1000000
set_option linter.unusedVariables false
set_option linter.unusedSimpArgs false
namespace Go.Proofs.YtmnaghfndigfkaaDoor.X
open Go Go.Ab

/-- Where an edge goes. -/
def eS (t e : Int) : Int := if e = 0 then 0 else if t = 1 ∨ t = 3 ∨ t = 4 ∨ t = 6 then 3 - e else e
theorem eS_in {t e : Int} (e0 : 0 ≤ e) (e3 : e < 3) : 0 ≤ eS t e ∧ eS t e < 3 ∧ eS t (eS t e) = e := by
 have ce : e = 0 ∨ e = 1 ∨ e = 2 := by omega
 unfold eS
 rcases ce with rfl | rfl | rfl
 ·simp
 ·by_cases h : t = 1 ∨ t = 3 ∨ t = 4 ∨ t = 6
  ·rw [if_neg (by decide), if_pos h, if_neg (by decide), if_pos h]; decide
  ·rw [if_neg (by decide), if_neg h, if_neg (by decide), if_neg h]; decide
 ·by_cases h : t = 1 ∨ t = 3 ∨ t = 4 ∨ t = 6
  ·rw [if_neg (by decide), if_pos h, if_neg (by decide), if_pos h]; decide
  ·rw [if_neg (by decide), if_neg h, if_neg (by decide), if_neg h]; decide
theorem mv_nb {t : Int} (hT : isT t) (a b : Int) {c : Cl} (h0 : 0 ≤ c.2.2) (h3 : c.2.2 ≤ 3) {e : Int} (e0 : 0 ≤ e) (e3 : e < 3) : nbC (mvC t a b c) (eS t e) = mvC t a b (nbC c e) := by
 obtain ⟨x, y, q⟩ := c
 simp only at h0 h3
 have cq : q = 0 ∨ q = 1 ∨ q = 2 ∨ q = 3 := by omega
 have ce : e = 0 ∨ e = 1 ∨ e = 2 := by omega
 rcases isT_or hT with rfl | rfl | rfl | rfl | rfl | rfl | rfl | rfl <;> rcases cq with rfl | rfl | rfl | rfl <;> rcases ce with rfl | rfl | rfl <;>
  simp [nbC, nbD, mvC, mvX', mvY', mtX, mtY, mvQ, sdX, sdY, qOf, eS] <;> omega
theorem mvQ_inj {t q p : Int} (hT : isT t) (h0 : 0 ≤ q) (h3 : q ≤ 3) (g0 : 0 ≤ p) (g3 : p ≤ 3) (h : mvQ t q = mvQ t p) : q = p := by
 have cq : q = 0 ∨ q = 1 ∨ q = 2 ∨ q = 3 := by omega
 have cp : p = 0 ∨ p = 1 ∨ p = 2 ∨ p = 3 := by omega
 rcases isT_or hT with rfl | rfl | rfl | rfl | rfl | rfl | rfl | rfl <;> rcases cq with rfl | rfl | rfl | rfl <;> rcases cp with rfl | rfl | rfl | rfl <;> first | rfl | (revert h; decide)
theorem mvC_inj {t : Int} (hT : isT t) (a b : Int) {c d : Cl} (h0 : 0 ≤ c.2.2) (h3 : c.2.2 ≤ 3) (g0 : 0 ≤ d.2.2) (g3 : d.2.2 ≤ 3) (h : mvC t a b c = mvC t a b d) : c = d := by
 obtain ⟨x, y, q⟩ := c
 obtain ⟨x', y', q'⟩ := d
 simp only at h0 h3 g0 g3
 simp only [mvC, Prod.mk.injEq] at h
 obtain ⟨k1, k2, k3⟩ := h
 have e3 := mvQ_inj hT h0 h3 g0 g3 k3
 have : x = x' ∧ y = y' := by
  rcases isT_or hT with rfl | rfl | rfl | rfl | rfl | rfl | rfl | rfl <;> simp [mvX', mvY', mtX, mtY] at k1 k2 <;> omega
 simp only [Prod.mk.injEq]
 exact ⟨this.1, this.2, e3⟩
theorem nb_q {c : Cl} {e : Int} (h0 : 0 ≤ c.2.2) (h3 : c.2.2 ≤ 3) (e0 : 0 ≤ e) (e3 : e < 3) : 0 ≤ (nbC c e).2.2 ∧ (nbC c e).2.2 ≤ 3 := by
 obtain ⟨x, y, q⟩ := c
 simp only at h0 h3
 have cq : q = 0 ∨ q = 1 ∨ q = 2 ∨ q = 3 := by omega
 have ce : e = 0 ∨ e = 1 ∨ e = 2 := by omega
 rcases cq with rfl | rfl | rfl | rfl <;> rcases ce with rfl | rfl | rfl <;> simp [nbC, nbD]
/-- From any cell, not only from the first one. -/
theorem con_any {l : List Cl} (hq : ∀ x ∈ l, 0 ≤ x.2.2 ∧ x.2.2 ≤ 3) (h : conP l) {z : Cl} (hz : z ∈ l) {S : Cl → Prop} (hcl : clo l S) (hS : S z) : ∀ x ∈ l, S x := by
 by_cases g : ∀ a t, l = a :: t → S a
 ·exact h S g hcl
 ·exfalso
  have g' : ∀ a t, l = a :: t → ¬ S a := by
   intro a t e hs
   apply g
   intro a' t' e'
   rw [e] at e'
   cases e'
   exact hs
  refine h (fun x => ¬ S x) g' (fun c hc hn e e0 e3 hin hs => hn ?_) z hz hS
  have := hcl _ hin hs e e0 e3 (by rw [nb_sym (hq c hc).1 (hq c hc).2 e0 e3]; exact hc)
  rw [nb_sym (hq c hc).1 (hq c hc).2 e0 e3] at this
  exact this
theorem con_mv {t : Int} (hT : isT t) (a b : Int) {l L : List Cl} (hq : ∀ x ∈ l, 0 ≤ x.2.2 ∧ x.2.2 ≤ 3) (hL : ∀ y, y ∈ L ↔ ∃ x ∈ l, mvC t a b x = y) : conB L = conB l := by
 have hqL : ∀ y ∈ L, 0 ≤ y.2.2 ∧ y.2.2 ≤ 3 := fun y hy => by
  obtain ⟨x, hx, rfl⟩ := (hL y).1 hy
  exact (mvQ_sd hT (hq x hx).1 (hq x hx).2).1
 have h1 : conP l → conP L := by
  intro h S hS hcl y hy
  have hcl' : clo l fun x => S (mvC t a b x) := fun c hc hs e e0 e3 hin => by
   obtain ⟨f0, f3, _⟩ := eS_in (t := t) e0 e3
   have k := mv_nb hT a b (hq c hc).1 (hq c hc).2 e0 e3
   have := hcl _ ((hL _).2 ⟨c, hc, rfl⟩) hs (eS t e) f0 f3 (by rw [k]; exact (hL _).2 ⟨_, hin, rfl⟩)
   rw [k] at this
   exact this
  cases L with
  | nil => simp at hy
  | cons z r =>
   obtain ⟨w, hw, ew⟩ := (hL z).1 (List.mem_cons_self ..)
   obtain ⟨x, hx, rfl⟩ := (hL y).1 hy
   exact con_any hq h hw hcl' (by show S _; rw [ew]; exact hS _ _ rfl) x hx
 have h2 : conP L → conP l := by
  intro h S hS hcl x hx
  have hcl' : clo L fun y => ∃ c ∈ l, mvC t a b c = y ∧ S c := by
   rintro y hy ⟨c, hc, rfl, hs⟩ e e0 e3 hin
   obtain ⟨f0, f3, f⟩ := eS_in (t := t) e0 e3
   have k := mv_nb hT a b (hq c hc).1 (hq c hc).2 f0 f3
   rw [f] at k
   rw [k] at hin ⊢
   obtain ⟨d, hd, ed⟩ := (hL _).1 hin
   have hqn := nb_q (hq c hc).1 (hq c hc).2 f0 f3
   have e' := mvC_inj hT a b (hq d hd).1 (hq d hd).2 hqn.1 hqn.2 ed
   subst e'
   exact ⟨_, hd, rfl, hcl c hc hs (eS t e) f0 f3 hd⟩
  cases l with
  | nil => simp at hx
  | cons z r =>
   have hz : mvC t a b z ∈ L := (hL _).2 ⟨z, List.mem_cons_self .., rfl⟩
   obtain ⟨c, hc, ec, hs⟩ := con_any hqL h hz hcl' ⟨z, List.mem_cons_self .., rfl, hS _ _ rfl⟩ (mvC t a b x) ((hL _).2 ⟨x, hx, rfl⟩)
   have := mvC_inj hT a b (hq c hc).1 (hq c hc).2 (hq x hx).1 (hq x hx).2 ec
   rw [← this]; exact hs
 unfold conB
 by_cases g : conP l
 ·rw [@decide_eq_true _ (Classical.propDecidable _) g, @decide_eq_true _ (Classical.propDecidable _) (h1 g)]
 ·rw [@decide_eq_false _ (Classical.propDecidable _) g, @decide_eq_false _ (Classical.propDecidable _) (fun k => g (h2 k))]
/-- Sorted, without doubles: ascending. -/
theorem srtQ_srt {d : List Cl} (hq : okQ d) (hnd : d.Nodup) : Srt (srtQ d) := by
 obtain ⟨p1, p2⟩ := sortL_perm swoQ d
 have hs := srtQ_q hq
 have hn : (srtQ d).Nodup := (srtQ_perm d).nodup_iff.2 hnd
 refine List.Pairwise.imp_of_mem (fun {a b} ha hb h => ?_) (List.Pairwise.and p2 hn)
 obtain ⟨h, hne⟩ := h
 have h1 := hs a ha
 have h2 := hs b hb
 unfold cmpQ at h
 rw [clq_ok h1.1 h1.2, clq_ok h2.1 h2.2, cmpC_neg, Bool.not_eq_true] at h
 cases g : ltC a b with
 | true => rfl
 | false => exact absurd (ltC_tri g h) hne
end Go.Proofs.YtmnaghfndigfkaaDoor.X
