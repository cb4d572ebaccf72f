/-
 Squares, outlines: the contracts.
-/
import Derived.Test.YtmnaghfndigfkaaDoorCJZ
set_option maxRecDepth 1000000
set_option linter.unusedVariables false
set_option linter.unusedSimpArgs false
namespace Go.Proofs.YtmnaghfndigfkaaDoor.X
open Go Go.Ab

theorem bx (b : Bool) : (bif b then b && true else true) = true := by cases b <;> rfl
theorem sqL_len (l : List Cl) : ∀ n, (sqL l n).length ≤ n
 | 0 => Nat.le_refl _
 | n + 1 => by
  have := sqL_len l n
  simp only [sqL]
  cases sqB l n with
  | true => rw [cond_true, List.length_append]; simp; omega
  | false => rw [cond_false]; omega
theorem TH44ok : TabOk Tryd.prog G TH44 := tabL_ok noCh_ok ⟨ct61, ct99, trivial⟩
theorem chkX {α : Type} {l : List Cl} (h : (chkI l != 0) = true) (a b : α) : cond (chkI l == 0) a b = b := by
 have : (chkI l == 0) = false := by simpa using h
 rw [this]; rfl
theorem chkY {α : Type} {l : List Cl} (h : chkI l = 0) (a b : α) : cond (chkI l == 0) a b = a := by rw [h]; rfl
theorem ct44 : CtOk Tryd.prog G 44 e44 := by
 intro args r h hp
 unfold e44 at h
 split at h <;> cases h
 obtain ⟨⟨h1, h2, hz⟩, hq0⟩ := hp
 generalize unK _ = l at *
 subst h1 h2
 refine (fnP_spec hcm hmx TH44ok ok44 rfl (ob_o44 l) ?_ : SpecP Tryd.prog G 44 [cls l] _ []).caps
 rw [unK_flat]
 simp only [ltb_iff, ltb_no, leb_iff, leb_no, len'_iff, ltn_iff, inR_i64, and_true, true_and, size_vals, iI, imp_self, bx, flatK_len]
 refine ⟨⟨okL_flat hz, hq0⟩, fun hb => ?_, fun hb => ⟨⟨0, by omega, by omega, rfl, rfl⟩, ?_⟩⟩
 ·have e : sqX l = [] := chkX hb _ _
  rw [e]; exact ⟨rfl, rfl, rfl⟩
 have h0 : chkI l = 0 := by simpa using hb
 have hl := (chk0 h0).1
 have eX : sqX l = sqL l l.length := chkY h0 _ _
 rintro ⟨i, o, m⟩ ⟨n, hi, hn, ho, hm⟩
 simp only at hi ho hm ⊢
 subst hi ho hm
 simp only [Int.toNat_natCast]
 refine ⟨fun hlt => ?_, fun hge => ?_⟩
 ·have g1 : n < l.length := by omega
  obtain ⟨a0, a1, a2⟩ := kget g1
  have hCs : (bif kQ l (n : Int) == 0 then ltb ((n : Int) + 3) (l.length : Int) else false) = (kQ l (n : Int) == 0 && decide (n + 3 < l.length)) := by
   cases hq : (kQ l (n : Int) == 0) with
   | false => rfl
   | true =>
    rw [cond_true, Bool.true_and]
    by_cases g : n + 3 < l.length
    ·rw [decide_eq_true g]; exact ltb_iff.2 (by omega)
    ·rw [decide_eq_false g]; exact ltb_no.2 (by omega)
  have hD : (bif (kQ l (n : Int) == 0 && decide (n + 3 < l.length)) then kX l ((n : Int) + 3) == kX l n && (kY l ((n : Int) + 3) == kY l n && kQ l ((n : Int) + 3) == 3) else false) = sqB l n := by
   unfold sqB
   have e3 : ((n + 3 : Nat) : Int) = (n : Int) + 3 := by omega
   rw [e3]
   cases (kQ l (n : Int) == 0) with
   | false => rfl
   | true => cases decide (n + 3 < l.length) <;> rfl
  simp only [hCs, hD]
  have hC : (kQ l (n : Int) == 0 && decide (n + 3 < l.length)) = true → n + 3 < l.length := fun h => by
   rw [Bool.and_eq_true] at h
   exact of_decide_eq_true h.2
  have hg : n + 3 < l.length → (List.drop (((n : Int) + 3).toNat * 3) (flatK l))[0]? = some (.int .i64 (kX l ((n : Int) + 3))) ∧ (List.drop (((n : Int) + 3).toNat * 3) (flatK l))[1]? = some (.int .i64 (kY l ((n : Int) + 3))) ∧ (List.drop (((n : Int) + 3).toNat * 3) (flatK l))[2]? = some (.int .u8 (kQ l ((n : Int) + 3))) := fun g => by
   have := kget g
   rw [show ((n + 3 : Nat) : Int) = (n : Int) + 3 by omega] at this
   rw [show ((n : Int) + 3).toNat = n + 3 by omega]
   exact this
  have hlen := sqL_len l n
  have e1 : sqL l (n + 1) = cond (sqB l n) (sqL l n ++ [kC l n]) (sqL l n) := rfl
  refine ⟨by omega, by omega, by omega, a0, a1, a2, fun _ => by omega, fun _ => by omega, fun _ => by omega, fun h => by have := hC h; omega, fun _ => by omega, fun h => (hg (hC h)).1, fun h => (hg (hC h)).2.1, fun h => (hg (hC h)).2.2, fun h => ⟨by omega, by omega, ⟨n + 1, by omega, by omega, ?_, ?_⟩, by omega⟩, fun h => ⟨by omega, ⟨n + 1, by omega, by omega, ?_, ?_⟩, by omega⟩⟩
  ·rw [e1, h, cond_true, flatK_app, flatK_one]; rfl
  ·rw [e1, h, cond_true, List.length_append]; rfl
  ·rw [e1, h]; rfl
  ·rw [e1, h]; rfl
 ·have e : n = l.length := by omega
  subst e
  rw [eX, h0]
  exact ⟨okL_flat (by have := sqL_len l l.length; omega), rfl, rfl, rfl, rfl⟩
/-! ### Outlines -/
theorem ct98 : CtOk Tryd.prog G 98 e98 := by
 intro args r h hp
 unfold e98 at h
 split at h <;> cases h
 rename_i a n _
 have hp : a.length = n * 4 := hp
 refine (fnP_spec hcm hmx T0ok ok98 rfl (ob_o98 a n) ?_ : SpecP Tryd.prog G 98 [.imm (.vals a) n none] _ []).caps
 simp [hp, Cont.size]
theorem flatE_app (a b : List Ed) : flatE (a ++ b) = flatE a ++ flatE b := by unfold flatE; rw [List.flatMap_append]
theorem flatE_len (l : List Ed) : (flatE l).length = l.length * 4 := RE.flat_len l
theorem outE_len (l : List Cl) (c : Cl) : ∀ n, (outE l c n).length ≤ n
 | 0 => Nat.le_refl _
 | n + 1 => by
  have := outE_len l c n
  simp only [outE]
  cases outB l c (n : Nat) with
  | true => rw [cond_true, List.length_append]; simp; omega
  | false => rw [cond_false]; omega
theorem outF_len (l : List Cl) : ∀ n, (outF l n).length ≤ 3 * n
 | 0 => Nat.le_refl _
 | n + 1 => by
  have := outF_len l n
  have := outE_len l (kC l n) 3
  simp only [outF, List.length_append]; omega
theorem TH43ok : TabOk Tryd.prog G TH43 := tabL_ok noCh_ok ⟨ct61, ct96, ct97, ct98, trivial⟩
theorem ct43 : CtOk Tryd.prog G 43 e43 := by
 intro args r h hp
 unfold e43 at h
 split at h <;> cases h
 obtain ⟨⟨h1, h2, hz⟩, hq0⟩ := hp
 generalize unK _ = l at *
 subst h1 h2
 refine (fnP_spec hcm hmx TH43ok ok43 rfl (ob_o43 l) ?_ : SpecP Tryd.prog G 43 [cls l] _ []).caps
 rw [unK_flat]
 simp only [ltb_iff, ltb_no, leb_iff, leb_no, len'_iff, ltn_iff, inR_i64, inR_u8, and_true, true_and, size_vals, iI, imp_self, bx, flatK_len]
 refine ⟨⟨okL_flat hz, hq0⟩, fun hb => ?_, fun hb => ⟨okL_flat hz, ⟨0, by omega, by omega, rfl, rfl⟩, ?_⟩⟩
 ·have e : outX l = [] := chkX hb _ _
  rw [e]; exact ⟨rfl, rfl, rfl⟩
 have h0 : chkI l = 0 := by simpa using hb
 obtain ⟨hl, hv, hs⟩ := chk0 h0
 have hM := mem_map h0
 have eX : outX l = outF l l.length := chkY h0 _ _
 rintro ⟨i, o, m⟩ ⟨n, hi, hn, ho, hm⟩
 simp only at hi ho hm ⊢
 subst hi ho hm
 simp only [Int.toNat_natCast]
 have hlen := outF_len l n
 refine ⟨fun hlt => ?_, fun hge => ?_⟩
 ·have g1 : n < l.length := by omega
  obtain ⟨a0, a1, a2⟩ := kget g1
  refine ⟨by omega, by omega, by omega, a0, a1, a2, ⟨0, by omega, by omega, (List.append_nil _).symm, rfl⟩, ?_⟩
  have hc : vldC (kX l n, kY l n, kQ l n) = true := by rw [← kAt g1]; exact hv _ (List.getElem_mem g1)
  have hq := okQ_at hq0 g1
  have e2 : outF l (n + 1) = outF l n ++ outE l (kX l n, kY l n, kQ l n) 3 := rfl
  generalize kX l n = x at *
  generalize kY l n = y at *
  generalize kQ l n = q at *
  rintro ⟨j, o, m⟩ ⟨k, hj, hk, ho, hm⟩
  simp only at hj ho hm ⊢
  subst hj ho hm
  simp only [Int.toNat_natCast]
  have hlk := outE_len l (x, y, q) k
  have e1 : outE l (x, y, q) (k + 1) = cond (outB l (x, y, q) (k : Nat)) (outE l (x, y, q) k ++ [((x, y, q), ((k : Nat) : Int))]) (outE l (x, y, q) k) := rfl
  have yes : outB l (x, y, q) (k : Nat) = true → (flatE (outF l n) ++ flatE (outE l (x, y, q) k)) ++ [.int .i64 x, .int .i64 y, .int .u8 q, .int .u8 (k : Nat)] = flatE (outF l n) ++ flatE (outE l (x, y, q) (k + 1)) ∧ (outF l n).length + (outE l (x, y, q) k).length + 1 = (outF l n).length + (outE l (x, y, q) (k + 1)).length := fun h => by
   rw [e1, h, cond_true, flatE_app, List.length_append, List.append_assoc]
   exact ⟨rfl, rfl⟩
  refine ⟨fun hlt => ⟨⟨hc, by omega, by omega, by omega⟩, fun he => ?_, fun he => ⟨fun hm => ?_, fun hm => ?_⟩⟩, fun hge => ?_⟩
  ·have : outB l (x, y, q) (k : Nat) = true := by unfold outB; rw [nb_no he]; rfl
   exact ⟨by omega, by omega, ⟨k + 1, by omega, by omega, (yes this).1, (yes this).2⟩, by omega⟩
  ·obtain ⟨n1, n2⟩ := nb_ok he
   rw [n2, mval_rep hM, Bool.not_eq_true'] at hm
   have : outB l (x, y, q) (k : Nat) = true := by unfold outB; rw [hm, Bool.and_false]; rfl
   exact ⟨by omega, by omega, ⟨k + 1, by omega, by omega, (yes this).1, (yes this).2⟩, by omega⟩
  ·obtain ⟨n1, n2⟩ := nb_ok he
   rw [n2, mval_rep hM, Bool.not_eq_false'] at hm
   have : outB l (x, y, q) (k : Nat) = false := by unfold outB; rw [hm, n1]; rfl
   exact ⟨by omega, ⟨k + 1, by omega, by omega, by rw [e1, this]; rfl, by rw [e1, this]; rfl⟩, by omega⟩
  ·have ek : k = 3 := by omega
   subst ek
   refine ⟨by omega, ⟨n + 1, by omega, by omega, ?_, ?_⟩, by omega⟩
   ·rw [e2, flatE_app]
   ·rw [e2, List.length_append]
 ·have e : n = l.length := by omega
  subst e
  rw [eX, h0]
  exact ⟨flatE_len _, rfl, rfl, rfl, rfl⟩
end Go.Proofs.YtmnaghfndigfkaaDoor.X
