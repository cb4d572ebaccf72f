/-
 Cones: the contracts of a folded fan's methods.
-/
import Derived.Test.YthiammkiobbclaaGreatDoorO6Z
import Derived.Test.YthiammkiobbclaaGreatDoorC1Z
set_option maxRecDepth 1000000
set_option linter.unusedVariables false
set_option linter.unusedSimpArgs false
namespace Go.Proofs.YthiammkiobbclaaGreatDoor.X
open Go Go.Ab

theorem bfI_eq {n c : Int} (h0 : 0 ≤ c) (h1 : c < n) : bfI n c = if c = 0 then n - 1 else c - 1 := by
 unfold bfI
 rw [Int.tmod_eq_emod_of_nonneg (by omega)]
 split
 ·rename_i h; subst h
  rw [show 0 + n - 1 = n - 1 by omega, Int.emod_eq_of_lt (by omega) (by omega)]
 ·rw [show c + n - 1 = (c - 1) + n by omega, Int.add_emod_right, Int.emod_eq_of_lt (by omega) (by omega)]
theorem bfI_rng {n c : Int} (h0 : 0 ≤ c) (h1 : c < n) : 0 ≤ bfI n c ∧ bfI n c < n := by
 rw [bfI_eq h0 h1]; split <;> omega
theorem x8get {x0 x1 x2 x3 x4 x5 x6 x7 c : Int} (h0 : 0 ≤ c) (h1 : c < 8) : ([.int .i64 x0, .int .i64 x1, .int .i64 x2, .int .i64 x3, .int .i64 x4, .int .i64 x5, .int .i64 x6, .int .i64 x7] : List AV)[c.toNat]? = some (.int .i64 (gR [x0, x1, x2, x3, x4, x5, x6, x7] c)) := by
 have hc : c = 0 ∨ c = 1 ∨ c = 2 ∨ c = 3 ∨ c = 4 ∨ c = 5 ∨ c = 6 ∨ c = 7 := by omega
 rcases hc with rfl | rfl | rfl | rfl | rfl | rfl | rfl | rfl <;> rfl
theorem gR0 {r : List Int} {c : Int} : (List.drop c.toNat r).getD 0 0 = gR r c := by
 unfold gR; rw [List.getD_eq_getElem?_getD, List.getElem?_drop, Nat.add_zero]
theorem bt1 (x : Bool) : ((bif x then (x && true) else true) = true) = True := by cases x <;> simp
theorem anyN_no {n : Nat} {f : Int → Bool} (h : ∀ j : Nat, j < n → f j = false) : anyN n f = false := by
 unfold anyN
 rw [List.any_eq_false]
 intro x hx
 rw [h x (List.mem_range.1 hx)]; simp
theorem anyN_yes {n : Nat} {f : Int → Bool} {j : Nat} (h : j < n) (hf : f j = true) : anyN n f = true := by
 unfold anyN
 rw [List.any_eq_true]
 exact ⟨j, List.mem_range.2 h, hf⟩
/-- Three values given, capacities not told. -/
theorem con_caps {f : Nat} {a k r : List Int} {n m p : Nat} {c1 c2 c3 : Option Nat} {rest : List AV} {v : AV} {bs : List Blk} (h : SpecP Tryz.prog G f (.agg [.imm (.ints .i64 a) n none, .imm (.ints .u8 k) m none, .imm (.ints .i64 r) p none] :: rest) v bs) :
  SpecP Tryz.prog G f (.agg [.imm (.ints .i64 a) n c1, .imm (.ints .u8 k) m c2, .imm (.ints .i64 r) p c3] :: rest) v bs := h.args fun w F xs h => by
 cases h with
 | cons _ _ _ _ h1 h2 => exact .cons _ _ _ _ h1.caps h2
theorem cok_self (a k r : List Int) : cok a k r a.length k.length r.length := ⟨rfl, rfl, rfl⟩
theorem ct73 : CtOk Tryz.prog G 73 e73 := by
 intro args r h hp
 unfold e73 at h
 split at h <;> cases h
 rename_i a n _ k m _ r p _ c
 obtain ⟨⟨rfl, rfl, rfl⟩, h1, h2, h3, h4⟩ := hp
 refine con_caps (fnP_spec hcm hmx T0ok ok73 rfl (ob_o73 a k r c) ?_)
 have : ((a.length : Int) == 0) = false := by rw [beq_eq_false_iff_ne]; omega
 simp only [inR_i64, and_true, true_and, Bool.not_eq_true', this]
 and_intros <;> first | omega | rfl
theorem ct74 : CtOk Tryz.prog G 74 e74 := by
 intro args r h hp
 unfold e74 at h
 split at h <;> cases h
 rename_i a n _ k m _ r p _ y s
 obtain ⟨⟨rfl, rfl, rfl⟩, h1, h2, h3⟩ := hp
 refine con_caps (fnP_spec hcm hmx T0ok ok74 rfl (ob_o74 a k r y s) ?_)
 dsimp -failIfUnchanged -proj -eta -iota -zeta only
 simp only [inR_i64, and_true, true_and, ltb_iff, leb_iff, ltn_iff, size_ints, List.length_drop, gR0]
 and_intros
 any_goals omega
 ·intro h
  show _ = (_ && _)
  rw [show ltb (mnI (gR r s) (gR r (s + 1))) y = true from ltb_iff.2 h]; rfl
 ·intro h
  show _ = (_ && _)
  rw [show ltb (mnI (gR r s) (gR r (s + 1))) y = false from h]; rfl
theorem ct76 : CtOk Tryz.prog G 76 e76 := by
 intro args r h hp
 unfold e76 at h
 split at h <;> cases h
 rename_i a n _ k m _ r p _ c
 obtain ⟨⟨rfl, rfl, rfl⟩, h1, h2, h3⟩ := hp
 refine con_caps (fnP_spec hcm hmx T0ok ok76 rfl (ob_o76 a k r c) ?_)
 simp only [inR_i64, and_true, true_and, ltb_iff, leb_iff, ltn_iff, size_ints, List.length_drop, gR0]
 and_intros <;> first | omega | rfl
theorem ct82 : CtOk Tryz.prog G 82 e82 := by
 intro args r h hp
 unfold e82 at h
 split at h <;> cases h
 rename_i a n _ k m _ r p _ c d
 obtain ⟨⟨rfl, rfl, rfl⟩, h1, h2, h3, h4, h5⟩ := hp
 refine con_caps (fnP_spec hcm hmx T0ok ok82 rfl (ob_o82 a k r c d) ?_)
 dsimp -failIfUnchanged -proj -eta -iota -zeta only
 simp only [inR_i64, and_true, true_and, ltb_iff, leb_iff, ltn_iff, size_ints, List.length_drop, gR0]
 and_intros <;> first | omega | rfl
theorem TA1ok : TabOk Tryz.prog G TA1 := tabL_ok noCh_ok ⟨ct73, trivial⟩
theorem ct75 : CtOk Tryz.prog G 75 e75 := by
 intro args r h hp
 unfold e75 at h
 split at h <;> cases h
 rename_i a n _ k m _ r p _ x0 x1 x2 x3 x4 x5 x6 x7 c s
 obtain ⟨⟨rfl, rfl, rfl⟩, h1, h2, h3, h4, h5, h6⟩ := hp
 refine con_caps (fnP_spec hcm hmx TA1ok ok75 rfl (ob_o75 a k r x0 x1 x2 x3 x4 x5 x6 x7 c s) ?_)
 dsimp -failIfUnchanged -proj -eta -iota -zeta only
 have hb := bfI_rng h3 h4
 have g1 := x8get (x0 := x0) (x1 := x1) (x2 := x2) (x3 := x3) (x4 := x4) (x5 := x5) (x6 := x6) (x7 := x7) hb.1 (by omega)
 have g2 := x8get (x0 := x0) (x1 := x1) (x2 := x2) (x3 := x3) (x4 := x4) (x5 := x5) (x6 := x6) (x7 := x7) h3 (by omega)
 have g3 := x8get (x0 := x0) (x1 := x1) (x2 := x2) (x3 := x3) (x4 := x4) (x5 := x5) (x6 := x6) (x7 := x7) h5 (by omega)
 generalize hX : [x0, x1, x2, x3, x4, x5, x6, x7] = X at *
 rw [g1, g2, g3]
 simp only [and_true, true_and, leb_iff, ltb_iff]
 have d1 : (if gR X c < gR X (bfI a.length c) then gR X c else gR X (bfI a.length c)) = mnI (gR X (bfI a.length c)) (gR X c) := rfl
 have d2 : (if gR X c > gR X (bfI a.length c) then gR X c else gR X (bfI a.length c)) = mxI (gR X (bfI a.length c)) (gR X c) := rfl
 simp only [d1, d2]
 unfold btwB
 generalize mnI (gR X (bfI a.length c)) (gR X c) = lo
 generalize mxI (gR X (bfI a.length c)) (gR X c) = hi
 refine ⟨⟨cok_self _ _ _, h1, h2, h3, h4⟩, by omega, by omega, by omega, by omega, by omega, by omega, by omega, by omega, fun e => ⟨by omega, by omega, fun f => ⟨by omega, by omega, ?_⟩, fun f => ?_⟩, fun e => ?_⟩
 ·rw [leb_iff.2 e, ltb_iff.2 f]; rfl
 ·rw [f]; cases leb 0 lo <;> rfl
 ·rw [e]; rfl
theorem ct54 : CtOk Tryz.prog G 54 e54 := by
 intro args r h hp
 unfold e54 at h
 split at h <;> cases h
 rename_i a n _ k m _ r p _ x0 x1 x2 x3 x4 x5 x6 x7 c
 obtain ⟨⟨rfl, rfl, rfl⟩, h1, h2, h3, h4⟩ := hp
 refine con_caps (fnP_spec hcm hmx TA1ok ok54 rfl (ob_o54 a k r x0 x1 x2 x3 x4 x5 x6 x7 c) ?_)
 dsimp -failIfUnchanged -proj -eta -iota -zeta only
 have hb := bfI_rng h3 h4
 have g1 := x8get (x0 := x0) (x1 := x1) (x2 := x2) (x3 := x3) (x4 := x4) (x5 := x5) (x6 := x6) (x7 := x7) hb.1 (by omega)
 have g2 := x8get (x0 := x0) (x1 := x1) (x2 := x2) (x3 := x3) (x4 := x4) (x5 := x5) (x6 := x6) (x7 := x7) h3 (by omega)
 generalize hX : [x0, x1, x2, x3, x4, x5, x6, x7] = X at *
 rw [g1, g2]
 have hc := cok_self a k r
 unfold kdI
 generalize bfI a.length c = d at *
 simp only [and_true, true_and, leb_iff, ltb_iff, ltb_no, beq_iff_eq, beq_eq_false_iff_ne, ne_eq]
 refine ⟨⟨hc, h1, h2, h3, h4⟩, fun e => ⟨e, by omega, by omega, by omega, by omega, fun f => ?_, fun f => ?_⟩, fun e => ⟨e, by omega, by omega, by omega, by omega, fun f => ?_, fun f => ?_⟩⟩
 ·rw [if_pos e, if_pos f]
 ·rw [if_pos e, if_neg (by omega)]
 ·rw [if_neg e, if_pos f]
 ·rw [if_neg e, if_neg (by omega)]
theorem TA2ok : TabOk Tryz.prog G TA2 := tabL_ok noCh_ok ⟨ct74, ct75, ct76, ct82, ct54, ct73, trivial⟩
theorem bAnd (x y : Bool) : (bif x then y else false) = (x && y) := by cases x <;> rfl
theorem ct52 : CtOk Tryz.prog G 52 e52 := by
 intro args r h hp
 unfold e52 at h
 split at h <;> cases h
 rename_i a n _ k m _ r p _ x0 x1 x2 x3 x4 x5 x6 x7
 obtain ⟨⟨rfl, rfl, rfl⟩, h1, h2⟩ := hp
 refine con_caps (fnP_spec hcm hmx TA2ok ok52 rfl (ob_o52 a k r x0 x1 x2 x3 x4 x5 x6 x7) ?_)
 dsimp -failIfUnchanged -proj -eta -iota -zeta only
 have hc := cok_self a k r
 have G8 := fun (c : Int) (u : 0 ≤ c) (v : c < 8) => x8get (x0 := x0) (x1 := x1) (x2 := x2) (x3 := x3) (x4 := x4) (x5 := x5) (x6 := x6) (x7 := x7) u v
 generalize hX : [x0, x1, x2, x3, x4, x5, x6, x7] = X at *
 simp only [inR_i64, and_true, true_and, leb_iff, ltb_iff, ltb_no, ltn_iff, iI, size_ints, List.length_drop, gR0, bt1, imp_self, bAnd]
 refine ⟨⟨0, rfl, by omega, fun j hj => by omega⟩, ?_⟩
 rintro ⟨i⟩ ⟨m, hi, hm, hf⟩
 simp only at hi hf ⊢
 subst hi
 simp only [Int.toNat_natCast]
 refine ⟨fun hlt => ⟨⟨0, rfl, by omega, fun j hj => by omega⟩, ?_⟩, fun hge => (anyN_no fun j hj => hf j (by omega)).symm⟩
 rintro ⟨i⟩ ⟨q, hi, hq, hg⟩
 simp only at hi hg ⊢
 subst hi
 simp only [Int.toNat_natCast]
 refine ⟨fun hlq => ?_, fun hge => ⟨by omega, ⟨m + 1, by omega, by omega, fun j hj => ?_⟩, by omega⟩⟩
 ·have e1 := bfI_rng (n := a.length) (c := q) (by omega) (by omega)
  have e2 := bfI_rng (n := a.length) (c := m) (by omega) (by omega)
  have g1 := G8 _ e1.1 (by omega)
  have g2 := G8 q (by omega) (by omega)
  rw [Int.toNat_natCast] at g2
  have d1 : (if gR X q < gR X (bfI a.length q) then gR X q else gR X (bfI a.length q)) = mnI (gR X (bfI a.length q)) (gR X q) := rfl
  simp only [d1, g1, g2, and_true, true_and]
  have A : cok a k r a.length k.length r.length ∧ 0 < a.length ∧ a.length ≤ 8 ∧ (0 : Int) ≤ m ∧ (m : Int) < a.length ∧ (0 : Int) ≤ q ∧ (q : Int) < a.length := ⟨hc, by omega, h1, by omega, by omega, by omega, by omega⟩
  have B : cok a k r a.length k.length r.length ∧ 0 < a.length ∧ a.length ≤ 8 ∧ (0 : Int) ≤ m ∧ (m : Int) < a.length ∧ 0 ≤ bfI a.length q ∧ bfI a.length q < a.length := ⟨hc, by omega, h1, by omega, by omega, by omega, by omega⟩
  refine ⟨⟨hc, by omega, by omega, by omega, by omega⟩, by omega, by omega, by omega, by omega, ⟨hc, by omega, by omega, by omega⟩, fun _ => A, fun h => ?_, fun h => ⟨fun _ => by omega, fun _ => by omega, fun _ => by omega, fun _ => by omega, fun _ => by omega, fun _ => by omega, fun _ => by omega, fun _ => by omega, fun _ => ⟨hc, by omega, by omega, by omega⟩, fun _ => ⟨hc, by omega, by omega, by omega⟩, fun _ => by omega, fun _ => by omega, fun _ => trivial, fun _ => by omega, fun _ => by omega, fun _ => trivial, fun _ => B, fun _ => A, fun h' => ?_, fun h' => ⟨by omega, ⟨q + 1, by omega, by omega, fun j hj => ?_⟩, by omega⟩⟩⟩
  ·refine (anyN_yes (j := m) (by omega) (anyN_yes (j := q) (by omega) ?_)).symm
   unfold crs1; rw [h]; rfl
  ·refine (anyN_yes (j := m) (by omega) (anyN_yes (j := q) (by omega) ?_)).symm
   unfold crs1
   rw [h, ← h', Bool.false_or]
   simp only [bne, Bool.and_assoc]
  ·by_cases hj' : j < q
   ·exact hg j hj'
   ·rw [show j = q by omega]
    refine Eq.trans ?_ h'
    unfold crs1
    rw [h, Bool.false_or]
    simp only [bne, Bool.and_assoc]
 ·by_cases hj' : j < m
  ·exact hf j hj'
  ·rw [show j = m by omega]
   exact anyN_no fun i hi => hg i (by omega)
theorem ct53 : CtOk Tryz.prog G 53 e53 := by
 intro args r h hp
 unfold e53 at h
 split at h <;> cases h
 rename_i a n _ k m _ r p _ x0 x1 x2 x3 x4 x5 x6 x7
 obtain ⟨⟨rfl, rfl, rfl⟩, h1, h2⟩ := hp
 refine con_caps (fnP_spec hcm hmx TA2ok ok53 rfl (ob_o53 a k r x0 x1 x2 x3 x4 x5 x6 x7) ?_)
 dsimp -failIfUnchanged -proj -eta -iota -zeta only
 have hc := cok_self a k r
 have G8 := fun (c : Int) (u : 0 ≤ c) (v : c < 8) => x8get (x0 := x0) (x1 := x1) (x2 := x2) (x3 := x3) (x4 := x4) (x5 := x5) (x6 := x6) (x7 := x7) u v
 generalize hX : [x0, x1, x2, x3, x4, x5, x6, x7] = X at *
 simp only [inR_i64, and_true, true_and, leb_iff, ltb_iff, ltb_no, ltn_iff, iI, size_ints, List.length_drop, gR0, bt1, imp_self, bAnd]
 refine ⟨⟨0, rfl, by omega, fun j hj => by omega⟩, ?_⟩
 rintro ⟨i⟩ ⟨m, hi, hm, hf⟩
 simp only at hi hf ⊢
 subst hi
 simp only [Int.toNat_natCast]
 refine ⟨fun hlt => ?_, fun hge => (anyN_no fun j hj => hf j (by omega)).symm⟩
 have e1 := bfI_rng (n := a.length) (c := m) (by omega) (by omega)
 have g1 := G8 _ e1.1 (by omega)
 have g2 := G8 m (by omega) (by omega)
 rw [Int.toNat_natCast] at g2
 have d1 : (if gR X m < gR X (bfI a.length m) then gR X m else gR X (bfI a.length m)) = mnI (gR X (bfI a.length m)) (gR X m) := rfl
 simp only [d1, g1, g2, and_true, true_and, implies_true]
 have ek : ((a.length : Nat) : Int) = (k.length : Nat) := by omega
 refine ⟨by omega, by omega, by omega, by omega, ⟨hc, by omega, by omega, by omega, by omega⟩, fun _ => by omega, fun _ => by omega, fun _ => by omega, fun _ => by omega, fun _ => ⟨hc, by omega, by omega, by omega, by omega⟩, fun h => ?_, fun h => ⟨by omega, ⟨m + 1, by omega, by omega, fun j hj => ?_⟩, by omega⟩⟩
 ·refine (anyN_yes (j := m) (by omega) ?_).symm
  unfold wrg1
  rw [← h, ek]
  simp only [bne, Bool.and_assoc]
 ·by_cases hj' : j < m
  ·exact hf j hj'
  ·rw [show j = m by omega]
   unfold wrg1
   rw [← h, ek]
   simp only [bne, Bool.and_assoc]
theorem set_len8 {l : List Int} {i : Nat} {x : Int} (h : l.length = 8) : (l.set i x).length = 8 := by rw [List.length_set]; exact h
theorem ct51 : CtOk Tryz.prog G 51 e51 := by
 intro args r h hp
 unfold e51 at h
 split at h <;> cases h
 rename_i o n _
 obtain ⟨rfl, h1, h2⟩ := hp
 refine (fnP_spec hcm hmx T0ok ok51 rfl (ob_o51 o) ?_ : SpecP Tryz.prog G 51 [.imm (.ints .i64 o) o.length none] _ []).caps
 dsimp -failIfUnchanged -proj -eta -iota -zeta only
 simp only [inR_i64, and_true, true_and, leb_iff, ltb_iff, ltb_no, ltn_iff, len'_iff, iI, size_ints, List.length_drop]
 refine ⟨⟨0, rfl, by omega, rfl⟩, ?_⟩
 rintro ⟨i, rk⟩ ⟨m, hi, hm, hl, he⟩
 simp only at hi hl he ⊢
 subst hi
 simp only [Int.toNat_natCast]
 refine ⟨fun hlt => ?_, fun hge => ?_⟩
 ·have g : m < o.length := by omega
  have ex : List.getD (List.drop m o) 0 0 = o[m] := by rw [List.getD_eq_getElem?_getD, List.getElem?_drop, Nat.add_zero, List.getElem?_eq_getElem g]; rfl
  have hx := h2 _ (List.getElem_mem g)
  rw [List.drop_eq_getElem_cons g] at he
  rw [ex]
  refine ⟨by omega, by omega, by omega, by omega, by omega, by omega, by omega, by omega, ⟨m + 1, by omega, by omega, set_len8 hl, he⟩, by omega⟩
 ·rw [List.drop_eq_nil_of_le (by omega)] at he
  have he : rk = rkF o := he
  subst he
  refine ⟨by omega, ?_⟩
  simp only [List.getD_eq_getElem?_getD]
  exact ⟨rfl, rfl, rfl, rfl, rfl, rfl, rfl, rfl⟩
theorem ct51z : CtOk Tryz.prog G 51 e51z := by
 intro args r h hp
 unfold e51z at h
 split at h <;> cases h
 refine fnP_spec hcm hmx T0ok ok51 rfl ob_o51z ?_
 decide
end Go.Proofs.YthiammkiobbclaaGreatDoor.X
