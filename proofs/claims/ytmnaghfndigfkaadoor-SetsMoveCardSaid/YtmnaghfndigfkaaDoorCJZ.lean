/-
 Neighbours, squares, outlines: the contracts; the map of a set.
-/
import Derived.Test.YtmnaghfndigfkaaDoorOHbZ
import Derived.Test.YtmnaghfndigfkaaDoorCEZ
set_option maxRecDepth 1000000
set_option linter.unusedVariables false
set_option linter.unusedSimpArgs false
namespace Go.Proofs.YtmnaghfndigfkaaDoor.X
open Go Go.Ab

theorem TH97ok : TabOk Tryd.prog G TH97 := tabL_ok noCh_ok ⟨ct86, trivial⟩
theorem nb_fin {x y q e a b c : Int} (hc : nbC (x, y, q) e = (a, b, c)) :
  ((bI (vldC (a, b, c)) 0 1 != 0) = true → 0 = nbX x y q e ∧ 0 = nbY x y q e ∧ 0 = nbQ x y q e ∧ 3 = nbE x y q e ∧ True) ∧
  ((bI (vldC (a, b, c)) 0 1 != 0) = false → a = nbX x y q e ∧ b = nbY x y q e ∧ c = nbQ x y q e ∧ 0 = nbE x y q e ∧ True) := by
 unfold nbX nbY nbQ nbE
 rw [hc]
 cases vldC (a, b, c) <;> simp [bI]
theorem inR_of {a x : Int} (h1 : -10000 ≤ a + x) (h2 : a + x ≤ 10000) : inR .i64 (a + x) = true := inR_i64.2 (by omega)
theorem sp97 (x y q e : Int) (hv : vldC (x, y, q) = true) (h0 : 0 ≤ q) (he : 0 ≤ e) (he2 : e ≤ 2) : SpecP Tryd.prog G 97 [.agg [.int .i64 x, .int .i64 y, .int .u8 q], .int .u8 e] (.tup (nbL x y q e)) [] := by
 have hq := vldC_iff.1 hv
 simp only at hq
 have k0 : (!bI (vldC (x, y, q)) 0 1 != 0) = true := by rw [hv]; rfl
 have cq : q = 0 ∨ q = 1 ∨ q = 2 ∨ q = 3 := by omega
 have ce : e = 0 ∨ e = 1 ∨ e = 2 := by omega
 rcases cq with rfl | rfl | rfl | rfl <;> rcases ce with rfl | rfl | rfl
 ·exact fnP_spec hcm hmx TH97ok ok97 rfl (ob_o97_00 x y) ⟨k0, inR_of (by omega) (by omega), inR_of (by omega) (by omega), nb_fin rfl⟩
 ·exact fnP_spec hcm hmx TH97ok ok97 rfl (ob_o97_01 x y) ⟨k0, inR_of (by omega) (by omega), inR_of (by omega) (by omega), nb_fin rfl⟩
 ·exact fnP_spec hcm hmx TH97ok ok97 rfl (ob_o97_02 x y) ⟨k0, inR_of (by omega) (by omega), inR_of (by omega) (by omega), nb_fin rfl⟩
 ·exact fnP_spec hcm hmx TH97ok ok97 rfl (ob_o97_10 x y) ⟨k0, inR_of (by omega) (by omega), inR_of (by omega) (by omega), nb_fin rfl⟩
 ·exact fnP_spec hcm hmx TH97ok ok97 rfl (ob_o97_11 x y) ⟨k0, inR_of (by omega) (by omega), inR_of (by omega) (by omega), nb_fin rfl⟩
 ·exact fnP_spec hcm hmx TH97ok ok97 rfl (ob_o97_12 x y) ⟨k0, inR_of (by omega) (by omega), inR_of (by omega) (by omega), nb_fin rfl⟩
 ·exact fnP_spec hcm hmx TH97ok ok97 rfl (ob_o97_20 x y) ⟨k0, inR_of (by omega) (by omega), inR_of (by omega) (by omega), nb_fin rfl⟩
 ·exact fnP_spec hcm hmx TH97ok ok97 rfl (ob_o97_21 x y) ⟨k0, inR_of (by omega) (by omega), inR_of (by omega) (by omega), nb_fin rfl⟩
 ·exact fnP_spec hcm hmx TH97ok ok97 rfl (ob_o97_22 x y) ⟨k0, inR_of (by omega) (by omega), inR_of (by omega) (by omega), nb_fin rfl⟩
 ·exact fnP_spec hcm hmx TH97ok ok97 rfl (ob_o97_30 x y) ⟨k0, inR_of (by omega) (by omega), inR_of (by omega) (by omega), nb_fin rfl⟩
 ·exact fnP_spec hcm hmx TH97ok ok97 rfl (ob_o97_31 x y) ⟨k0, inR_of (by omega) (by omega), inR_of (by omega) (by omega), nb_fin rfl⟩
 ·exact fnP_spec hcm hmx TH97ok ok97 rfl (ob_o97_32 x y) ⟨k0, inR_of (by omega) (by omega), inR_of (by omega) (by omega), nb_fin rfl⟩
theorem ct97 : CtOk Tryd.prog G 97 e97 := by
 intro args r h hp
 unfold e97 at h
 split at h <;> cases h
 exact sp97 _ _ _ _ hp.1 hp.2.1 hp.2.2.1 hp.2.2.2
/-! ### The map -/
theorem kyC_inj {a b : Cl} (h : kyC a = kyC b) : a = b := by
 obtain ⟨x, y, q⟩ := a
 obtain ⟨x', y', q'⟩ := b
 simp only [kyC, List.cons.injEq, and_true] at h
 simp only [Prod.mk.injEq]
 exact h
theorem rep_cons {e : List Int × List Int × Nat} {es : ME} {L : List Cl} (h : repM (e :: es) L) : ∃ c r, L = c :: r ∧ e.1 = kyC c ∧ e.2.1 = [1] ∧ c ∉ r ∧ repM es r := by
 obtain ⟨h1, h2⟩ := h
 cases L with
 | nil => simp at h1
 | cons c r =>
  simp only [List.map_cons, List.cons.injEq, Prod.mk.injEq] at h1
  obtain ⟨n1, n2⟩ := List.nodup_cons.1 h2
  exact ⟨c, r, rfl, h1.1.1, h1.1.2, n1, h1.2, n2⟩
theorem mget_rep : ∀ {es : ME} {L : List Cl} (h : repM es L) (c : Cl), mget es (kyC c) = cond (hasL L c) (some [1]) none
 | [], L, h, c => by
  have : L = [] := by have := h.1; simpa using this.symm
  subst this; rfl
 | e :: es, L, h, c => by
  obtain ⟨d, r, rfl, h1, h2, h3, h4⟩ := rep_cons h
  simp only [mget, hasL]
  rw [h1, h2]
  by_cases hk : c = d
  ·subst hk
   rw [decide_eq_true rfl, eqCl_iff.2 rfl]; rfl
  ·rw [decide_eq_false (fun he => hk (kyC_inj he)), eqCl_no.2 (fun he => hk he.symm), cond_false, cond_false]
   exact mget_rep h4 c
theorem mval_rep {es : ME} {L : List Cl} (h : repM es L) (c : Cl) : ((((mget es (kyC c)).getD []).getD 0 0) != 0) = hasL L c := by
 rw [mget_rep h c]
 cases hasL L c <;> rfl
theorem mput_rep : ∀ {es : ME} {L : List Cl} (h : repM es L) {c : Cl} (hc : c ∉ L) (k : Nat), repM (mput es (kyC c) [1] k) (L ++ [c])
 | [], L, h, c, hc, k => by
  have : L = [] := by have := h.1; simpa using this.symm
  subst this
  exact ⟨rfl, by simp⟩
 | e :: es, L, h, c, hc, k => by
  obtain ⟨d, r, rfl, h1, h2, h3, h4⟩ := rep_cons h
  simp only [List.mem_cons, not_or] at hc
  have ih := mput_rep h4 hc.2 k
  simp only [mput]
  rw [h1, decide_eq_false (fun he => hc.1 (kyC_inj he)), cond_false]
  refine ⟨?_, ?_⟩
  ·rw [List.cons_append, List.map_cons, List.map_cons, ih.1, h1, h2]
  ·rw [List.cons_append]
   refine List.nodup_cons.2 ⟨?_, ih.2⟩
   rw [List.mem_append, List.mem_singleton, not_or]
   exact ⟨h3, fun e => hc.1 e.symm⟩
theorem mdel_rep : ∀ {es : ME} {L : List Cl} (h : repM es L) (c : Cl), repM (mdel es (kyC c)) (L.erase c)
 | [], L, h, c => by
  have : L = [] := by have := h.1; simpa using this.symm
  subst this
  exact h
 | e :: es, L, h, c => by
  obtain ⟨d, r, rfl, h1, h2, h3, h4⟩ := rep_cons h
  simp only [mdel]
  rw [h1]
  by_cases hk : c = d
  ·subst hk
   rw [decide_eq_true rfl, List.erase_cons_head]; exact h4
  ·rw [decide_eq_false (fun he => hk (kyC_inj he)), cond_false, List.erase_cons_tail (by simpa using fun he => hk he.symm)]
   have ih := mdel_rep h4 c
   refine ⟨?_, ?_⟩
   ·rw [List.map_cons, List.map_cons, ih.1, h1, h2]
   ·exact List.nodup_cons.2 ⟨fun hm => h3 (List.mem_of_mem_erase hm), ih.2⟩
theorem rep_len {es : ME} {L : List Cl} (h : repM es L) : es.length = L.length := by
 have := congrArg List.length h.1
 simpa using this
theorem memS_rep : ∀ (l : List Cl) {es : ME} {k : Nat} {M : List Cl}, repM es M → (M ++ l).Nodup → repM (memS l (es, k)).1 (M ++ l)
 | [], es, k, M, h, _ => by rw [List.append_nil]; exact h
 | c :: r, es, k, M, h, hn => by
  have hc : c ∉ M := by
   rw [List.nodup_append] at hn
   exact fun hm => hn.2.2 c hm c (List.mem_cons_self ..) rfl
  have ih := memS_rep r (k := mck es (kyC c) k) (mput_rep h hc k) (by rw [List.append_assoc]; exact hn)
  rw [List.append_assoc] at ih
  exact ih
theorem srt_nodup {l : List Cl} (h : Srt l) : l.Nodup := List.Pairwise.imp (fun {a b} hab e => by rw [e, ltC_irr] at hab; cases hab) h
theorem badL_vld : ∀ {l : List Cl}, badL l = false → ∀ x ∈ l, vldC x = true
 | [], _, x, hx => by simp at hx
 | c :: r, h, x, hx => by
  simp only [badL] at h
  cases hv : vldC c with
  | false => rw [hv] at h; cases h
  | true =>
   rw [hv, cond_true] at h
   rcases List.mem_cons.1 hx with rfl | hx
   ·exact hv
   ·exact badL_vld h x hx
theorem chk0 {l : List Cl} (h : chkI l = 0) : l.length ≤ 1024 ∧ (∀ x ∈ l, vldC x = true) ∧ Srt l := by
 unfold chkI at h
 by_cases hl : 1024 < l.length
 ·rw [decide_eq_true hl] at h; cases h
 ·rw [decide_eq_false hl, cond_false] at h
  cases hb : badL l with
  | true => rw [hb] at h; cases h
  | false =>
   rw [hb] at h
   cases hs : srtB l with
   | false => rw [hs] at h; cases h
   | true => exact ⟨Nat.le_of_not_lt hl, badL_vld hb, srtB_iff.1 hs⟩
theorem mem_map {l : List Cl} (h : chkI l = 0) : repM (memS l ([], 0)).1 l := by
 have := memS_rep l (es := []) (k := 0) (M := []) ⟨rfl, List.nodup_nil⟩ (by simpa using srt_nodup (chk0 h).2.2)
 simpa using this
theorem ct96 : CtOk Tryd.prog G 96 e96 := by
 intro args r h hp
 unfold e96 at h
 split at h <;> cases h
 obtain ⟨h1, h2, hz⟩ := hp
 generalize unK _ = l at *
 subst h1 h2
 refine (fnP_spec hcm hmx (tabL_ok (l := []) noCh_ok trivial) ok96 rfl (ob_o96 l) ?_ : SpecP Tryd.prog G 96 [cls l] _ [_]).caps
 simp only [ltb_iff, ltb_no, leb_iff, leb_no, len'_iff, ltn_iff, inR_i64, and_true, true_and, size_vals, iI]
 refine ⟨⟨0, rfl, by omega, rfl⟩, ?_⟩
 rintro ⟨i, es, k⟩ ⟨n, hi, hn, he⟩
 simp only at hi he ⊢
 subst hi
 simp only [Int.toNat_natCast]
 refine ⟨fun hlt => ?_, fun hge => ?_⟩
 ·have g1 : n < l.length := by omega
  obtain ⟨a0, a1, a2⟩ := kget g1
  refine ⟨by omega, by omega, by rw [flatK_len]; omega, a0, a1, a2, by omega, ⟨n + 1, by omega, by omega, ?_⟩, by omega⟩
  rw [← he, drop_at g1]; rfl
 ·rw [List.drop_eq_nil_of_le (by omega)] at he
  rw [← he]; exact ⟨rfl, rfl⟩
end Go.Proofs.YtmnaghfndigfkaaDoor.X
