/-
 The reference's choice of cells by their codes.
-/
import Derived.Test.YtmnaghfndigfkaaDoorCEZ
import Derived.Test.YtmnaghfndigfkaaDoorOEZ
set_option maxRecDepth 1000000
set_option linter.unusedVariables false
set_option linter.unusedSimpArgs false
namespace Go.Proofs.YtmnaghfndigfkaaDoor.X
open Go Go.Ab

theorem inR_u64' {x : Int} : inR .u64 x = true ↔ 0 ≤ x ∧ x ≤ 18446744073709551615 := by
 simp [inR, IntKind.min, IntKind.max, IntKind.signed, IntKind.bits]
theorem TE1ok : TabOk Tryd.prog G TE1 := tabL_ok noCh_ok ⟨ct47, ct92, trivial⟩
theorem whL_snoc (m : Int) (a b l : List Cl) (c : Cl) : whL m a b (l ++ [c]) = whF m a b (whL m a b l) c := by unfold whL; rw [List.foldl_append]; rfl
theorem whL_ok (m : Int) (a b : List Cl) (l : List Cl) : Srt (whL m a b l) ∧ (∀ x, x ∈ whL m a b l ↔ x ∈ l ∧ whB m a b x = true) ∧ (whL m a b l).length ≤ l.length := by
 suffices ∀ (l o : List Cl), Srt o → Srt (l.foldl (whF m a b) o) ∧ (∀ x, x ∈ l.foldl (whF m a b) o ↔ x ∈ o ∨ (x ∈ l ∧ whB m a b x = true)) ∧ (l.foldl (whF m a b) o).length ≤ o.length + l.length by
  have := this l [] (by simp [Srt])
  simpa [whL] using this
 intro l
 induction l with
 | nil => intro o ho; exact ⟨ho, fun x => by simp, by simp⟩
 | cons c l ih =>
  intro o ho
  rw [List.foldl_cons]
  cases hb : whB m a b c with
  | true =>
   have e : whF m a b o c = addL o c := by unfold whF; rw [hb]; rfl
   obtain ⟨s1, s2⟩ := addL_srt c ho
   rw [e]
   obtain ⟨i1, i2, i3⟩ := ih _ s1
   refine ⟨i1, fun x => ?_, ?_⟩
   ·rw [i2, s2, List.mem_cons]
    constructor
    ·rintro ((h | rfl) | ⟨h, g⟩)
     ·exact .inl h
     ·exact .inr ⟨.inl rfl, hb⟩
     ·exact .inr ⟨.inr h, g⟩
    ·rintro (h | ⟨rfl | h, g⟩)
     ·exact .inl (.inl h)
     ·exact .inl (.inr rfl)
     ·exact .inr ⟨h, g⟩
   ·have := addL_len o c
    simp only [List.length_cons]; omega
  | false =>
   have e : whF m a b o c = o := by unfold whF; rw [hb]; rfl
   rw [e]
   obtain ⟨i1, i2, i3⟩ := ih _ ho
   refine ⟨i1, fun x => ?_, by simp only [List.length_cons]; omega⟩
   rw [i2, List.mem_cons]
   constructor
   ·rintro (h | ⟨h, g⟩)
    ·exact .inl h
    ·exact .inr ⟨.inr h, g⟩
   ·rintro (h | ⟨rfl | h, g⟩)
    ·exact .inl h
    ·rw [hb] at g; cases g
    ·exact .inr ⟨h, g⟩
theorem ct36 : CtOk Tryd.prog G 36 e36 := by
 intro args r h hp
 unfold e36 at h
 split at h <;> cases h
 rename_i a n _ b k _ m
 obtain ⟨⟨h1, h2, hz⟩, ⟨h3, h4, hy⟩, hx⟩ := hp
 generalize unK a = a at *
 generalize unK b = b at *
 subst h1 h2 h3 h4
 have c3 : ∀ {x y z v : AV} {f : Nat} {bs : List Blk}, SpecP Tryd.prog G f [capsV x, capsV y, z] v bs → SpecP Tryd.prog G f [x, y, z] v bs := fun h => caps3 h
 refine c3 (fnP_spec hcm hmx TE1ok ok36 rfl (ob_o36 m a b) ?_ : SpecP Tryd.prog G 36 [cls a, cls b, _] _ [])
 rw [List.length_append] at hx
 have hl1 : ∀ {x : Cl} {l : List Cl}, 0 ≤ bI (hasL l x) 1 0 ∧ bI (hasL l x) 1 0 ≤ 1 := fun {x l} => by cases hasL l x <;> decide
 simp only [unK_flat, List.nil_append, ← flatK_app, ltb_iff, ltb_no, leb_iff, leb_no, len'_iff, ltn_iff, inR_i64, inR_u64', and_true, true_and, size_vals, iI, flatK_len, List.length_append, Nat.zero_add]
 refine ⟨by omega, by omega, ⟨0, by simp, by omega, rfl, rfl⟩, ?_⟩
 rintro ⟨i, o, q⟩ ⟨n, hi, hn, ho, hq⟩
 simp only at hi ho hq ⊢
 subst hi ho hq
 simp only [unK_flat, Int.toNat_natCast]
 refine ⟨fun hlt => ?_, fun hge => ?_⟩
 ·have g1 : n < (a ++ b).length := by rw [List.length_append]; omega
  obtain ⟨a0, a1, a2⟩ := kget g1
  have e1 : whL m a b ((a ++ b).take (n + 1)) = whF m a b (whL m a b ((a ++ b).take n)) (kX (a ++ b) n, kY (a ++ b) n, kQ (a ++ b) n) := by rw [take_at g1, whL_snoc]
  obtain ⟨b1, b2⟩ := hl1 (x := (kX (a ++ b) n, kY (a ++ b) n, kQ (a ++ b) n)) (l := a)
  obtain ⟨b3, b4⟩ := hl1 (x := (kX (a ++ b) n, kY (a ++ b) n, kQ (a ++ b) n)) (l := b)
  have hlen := (whL_ok m a b ((a ++ b).take n)).2.2
  rw [List.length_take] at hlen
  have hab : (a ++ b).length = a.length + b.length := List.length_append
  refine ⟨by omega, by omega, by omega, a0, a1, a2, okL_flat hz, by omega, by omega, by omega, a0, a1, a2, okL_flat hy, by omega, by omega, by omega, by omega, fun hw => ?_, fun hw => ?_⟩
  ·have hw : whB m a b (kX (a ++ b) n, kY (a ++ b) n, kQ (a ++ b) n) = true := hw
   have e2 : whL m a b ((a ++ b).take (n + 1)) = addL (whL m a b ((a ++ b).take n)) (kX (a ++ b) n, kY (a ++ b) n, kQ (a ++ b) n) := by rw [e1]; unfold whF; rw [hw]; rfl
   exact ⟨by omega, by omega, by omega, a0, a1, a2, okL_flat (by omega), by omega, ⟨n + 1, by omega, by omega, by rw [e2], by rw [e2]⟩, by omega⟩
  ·have hw : whB m a b (kX (a ++ b) n, kY (a ++ b) n, kQ (a ++ b) n) = false := hw
   have e2 : whL m a b ((a ++ b).take (n + 1)) = whL m a b ((a ++ b).take n) := by rw [e1]; unfold whF; rw [hw]; rfl
   exact ⟨by omega, ⟨n + 1, by omega, by omega, by rw [e2], by rw [e2]⟩, by omega⟩
 ·rw [List.take_of_length_le (by rw [List.length_append]; omega)]
  exact ⟨rfl, rfl⟩
end Go.Proofs.YtmnaghfndigfkaaDoor.X
