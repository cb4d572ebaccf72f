/-
 The law on shapes.
-/
import Derived.Test.YtmnaghfndigfkaaDoorPSZ
import Derived.Test.YtmnaghfndigfkaaDoorOUZ
import Derived.Test.YtmnaghfndigfkaaDoorCLZ
import Derived.Test.YtmnaghfndigfkaaDoorLZ
set_option maxRecDepth 1000000
set_option linter.unusedVariables false
set_option linter.unusedSimpArgs false
namespace Go.Proofs.YtmnaghfndigfkaaDoor.X
open Go Go.Ab

theorem TU10ok : TabOk Tryd.prog G TU10 := tabL_ok noCh_ok ⟨ct31, ct42, ct43, ct44, ct45, ct46, ct47, ct48, ct35, ct37, trivial⟩
theorem flatE_cons (c : Ed) (r : List Ed) : flatE (c :: r) = .int .i64 c.1.1 :: .int .i64 c.1.2.1 :: .int .u8 c.1.2.2 :: .int .u8 c.2 :: flatE r := by
 unfold flatE; rw [List.flatMap_cons]; rfl
theorem flatE_dropn : ∀ (n : Nat) (l : List Ed), flatE (l.drop n) = (flatE l).drop (n * 4)
 | 0, l => by simp
 | n + 1, [] => by simp [flatE]
 | n + 1, c :: r => by
  rw [List.drop_succ_cons, flatE_cons, flatE_dropn n r, Nat.add_mul]; rfl
theorem eget {l : List Ed} {n : Nat} (h : n < l.length) : (List.drop (n * 4) (flatE l))[0]? = some (.int .i64 (gE1 l n)) ∧ (List.drop (n * 4) (flatE l))[1]? = some (.int .i64 (gE2 l n)) ∧ (List.drop (n * 4) (flatE l))[2]? = some (.int .u8 (gE3 l n)) ∧ (List.drop (n * 4) (flatE l))[3]? = some (.int .u8 (gE4 l n)) := by
 rw [← flatE_dropn, List.drop_eq_getElem_cons h, flatE_cons]
 have e : gE l (n : Int) = l[n] := by
  unfold gE
  rw [Int.toNat_natCast, List.getElem?_eq_getElem h]; rfl
 unfold gE1 gE2 gE3 gE4
 rw [e]
 exact ⟨rfl, rfl, rfl, rfl⟩
theorem cn4_le (l : List Cl) (x y : Int) : ∀ n : Nat, 0 ≤ cn4 l x y n ∧ cn4 l x y n ≤ n
 | 0 => ⟨Int.le_refl _, Int.le_refl _⟩
 | n + 1 => by
  have ih := cn4_le l x y n
  simp only [cn4]
  cases hasL l (x, y, (n : Nat)) <;> simp only [bI, cond_true, cond_false] <;> omega
theorem sp10 (l : List Cl) (h1 : rawP l) : SpecP Tryd.prog G 10 [rwS l] (.bool true) [] := by
 refine fnP_spec hcm hmx TU10ok ok10 rfl (ob_o10 l) ?_
 simp only [unS_flat, and_true, true_and]
 have a := okM_sOf h1
 generalize sOf l = x at *
 have hS := okM_S a (by decide)
 have h0 : chkI x = 0 := hS.2
 have hL : okL (flatK x) x.length := okL_flat (by have := a.2.2; omega)
 have hv : vlL x := ⟨a.2.1, by have := a.2.2; omega⟩
 have hs : Srt x := a.1
 have hnd := srt_nodup hs
 have eX : outX x = ouL x := chkY h0 _ _
 have eC : cnX x = conB x := chkY h0 _ _
 have eQ : sqX x = sqL x x.length := chkY h0 _ _
 have hx40 : x.length ≤ 40 := a.2.2
 have hol : (ouL x).length ≤ 3 * x.length := outF_len x x.length
 refine ⟨h1, ?_⟩
 rintro ⟨a', n'⟩ ⟨f1, f2⟩
 simp only at f1 f2
 subst f1 f2
 simp only [unK_flat, eX, eC, eQ, h0, bI_eq, flatE_len, flatK_len, size_vals, List.drop_drop, Nat.zero_add, Nat.add_zero, List.nil_append]
 have eo : outF x x.length = ouL x := rfl
 simp only [eo, flatE_len, ltb_iff, ltb_no, leb_iff, leb_no, len'_iff, ltn_iff, inR_i64, inR_u8, and_true, true_and, iI]
 have hq : okQ x := hS.1
 obtain ⟨k, hk⟩ := out_par hv hnd
 refine ⟨⟨hL, hq⟩, ⟨hL, hq⟩, ⟨hL, hq⟩, ⟨hL, hv⟩, ⟨by decide, by decide, by decide, ⟨hL, hv, hnd⟩, by cases conB x <;> rfl, by simp, by simp, by omega, ?_, fun h => ?_, fun _ => trivial⟩, fun _ _ => ⟨⟨0, rfl, by omega⟩, ?_⟩⟩
 ·rw [hk, Int.mul_tmod_right]; rfl
 ·have hz : (ouL x).length = 0 := by simpa using h
  rcases Nat.eq_zero_or_pos x.length with g | g
  ·omega
  ·exact absurd hz (out_pos hv hs g)
 rintro ⟨i⟩ ⟨n, i1, i2⟩
 simp only at i1 ⊢
 subst i1
 simp only [Int.toNat_natCast]
 refine ⟨fun hlt => ?_, fun hge => ⟨⟨0, rfl, by omega, rfl, rfl⟩, ?_⟩⟩
 ·obtain ⟨e0, e1, e2, e3⟩ := eget (l := ouL x) (n := n) (by omega)
  exact ⟨by omega, by omega, by omega, e0, e1, e2, e3, by omega, by omega, by omega, e0, e1, e2, e3, by simp, by omega, ⟨n + 1, by omega, by omega⟩, by omega⟩
 rintro ⟨i, o, m⟩ ⟨n, i1, i2, i3, i4⟩
 simp only at i1 i3 i4 ⊢
 subst i1 i3 i4
 simp only [Int.toNat_natCast, unK_flat]
 have hsl := sqL_len x n
 refine ⟨fun hlt => ⟨⟨0, rfl, by omega, rfl⟩, ?_⟩, fun hge => ?_⟩
 ·have g1 : n < x.length := by omega
  obtain ⟨a0, a1, a2⟩ := kget g1
  have d1 : (List.drop (n * 3 + 1) (flatK x))[0]? = some (.int .i64 (kY x n)) := by
   rw [List.getElem?_drop] at a1 ⊢; exact a1
  have d2 : (List.drop (n * 3 + 2) (flatK x))[0]? = some (.int .u8 (kQ x n)) := by
   rw [List.getElem?_drop] at a2 ⊢; exact a2
  have e1 : sqL x (n + 1) = cond (sqB x n) (sqL x n ++ [kC x n]) (sqL x n) := rfl
  have no : ¬ (cn4 x (kX x n) (kY x n) 4 = 4 ∧ kQ x n = 0) → sqB x n = false := fun h => by
   cases hb : sqB x n with
   | false => rfl
   | true => exact absurd ((sq_iff hs g1).1 hb) h
  rintro ⟨c, w⟩ ⟨v, w1, w2, w3⟩
  simp only at w1 w3 ⊢
  subst w1 w3
  simp only [Int.toNat_natCast]
  have hcn := cn4_le x (kX x n) (kY x n) v
  have hb1 : 0 ≤ bI (hasL x (kX x n, kY x n, (v : Nat))) 1 0 ∧ bI (hasL x (kX x n, kY x n, (v : Nat))) 1 0 ≤ 1 := by
   cases hasL x (kX x n, kY x n, (v : Nat)) <;> decide
  refine ⟨fun hlt => ⟨by omega, by omega, by omega, a0, by omega, by omega, by omega, d1, hL, by omega, by omega, ⟨v + 1, by omega, by omega, rfl⟩, by omega⟩, fun hge => ?_⟩
  have ev : v = 4 := by omega
  subst ev
  refine ⟨fun h4 => ⟨by omega, by omega, by omega, d2, fun hz => ?_, fun hz => ?_⟩, fun h4 => ?_⟩
  ·have hb : sqB x n = true := (sq_iff hs g1).2 ⟨by simpa using h4, by simpa using hz⟩
   refine ⟨by omega, by omega, by omega, a0, a1, a2, by omega, by omega, ⟨n + 1, by omega, by omega, ?_, ?_⟩, by omega⟩
   ·rw [e1, hb, cond_true, flatK_app, flatK_one]; rfl
   ·rw [e1, hb, cond_true, List.length_append]; rfl
  ·have hb := no fun h => by rw [h.2] at hz; cases hz
   exact ⟨by omega, ⟨n + 1, by omega, by omega, by rw [e1, hb]; rfl, by rw [e1, hb]; rfl⟩, by omega⟩
  ·have hb := no fun h => by rw [h.1] at h4; cases h4
   exact ⟨by omega, ⟨n + 1, by omega, by omega, by rw [e1, hb]; rfl, by rw [e1, hb]; rfl⟩, by omega⟩
 ·have e : n = x.length := by omega
  subst e
  have hK := okL_flat (l := sqL x x.length) (by omega)
  exact ⟨by omega, by omega, ⟨hK, hK⟩, by rw [Nat.beq_refl, eqLC_iff.2 rfl]; rfl⟩
end Go.Proofs.YtmnaghfndigfkaaDoor.X
