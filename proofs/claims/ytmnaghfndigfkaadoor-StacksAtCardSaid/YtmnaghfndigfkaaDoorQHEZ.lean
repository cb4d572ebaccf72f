/-
 The law on At: proved.
-/
import Derived.Test.YtmnaghfndigfkaaDoorQHCZ
import Derived.Test.YtmnaghfndigfkaaDoorQOHcZ
set_option maxRecDepth 1000000
set_option linter.unusedVariables false
set_option linter.unusedSimpArgs false
namespace Go.Proofs.YtmnaghfndigfkaaDoor.X
open Go Go.Ab

theorem ixI_app (c : Int) : ∀ (a b : List Int) (i : Int), 0 ≤ i → ixI (a ++ b) c i = cond (leb 0 (ixI a c i)) (ixI a c i) (ixI b c (i + a.length))
 | [], b, i, h => by
  show ixI b c i = cond (leb 0 (-1)) _ _
  rw [show leb 0 (-1) = false from rfl]; simp
 | x :: a, b, i, h => by
  simp only [List.cons_append, ixI]
  by_cases hx : c = x
  ·rw [hx, beq_self_eq_true]
   have : leb 0 i = true := leb_iff.2 h
   show i = cond (leb 0 i) i _
   rw [this]; rfl
  ·rw [beq_false_of_ne hx]
   show ixI (a ++ b) c (i + 1) = cond (leb 0 (ixI a c (i + 1))) (ixI a c (i + 1)) _
   rw [ixI_app c a b (i + 1) (by omega), List.length_cons]
   rw [show i + 1 + (a.length : Int) = i + ((a.length + 1 : Nat) : Int) by omega]
theorem fdS_app (c : Int) : ∀ (a b : List Sk), fdS (a ++ b) c = cond ((fdS a c).2.2 == 0) (fdS a c) (fdS b c)
 | [], b => rfl
 | s :: a, b => by
  simp only [List.cons_append, fdS]
  cases leb 0 (ixI s.2 c 0) with
  | true => rfl
  | false => exact fdS_app c a b
theorem fdS_no {l : List Sk} {c : Int} (h : ((fdS l c).2.2 == 0) = false) : fdS l c = ((0, 0, 0), 0, 7) := by
 induction l with
 | nil => rfl
 | cons s l ih =>
  simp only [fdS] at h ⊢
  cases hb : leb 0 (ixI s.2 c 0) with
  | true => rw [hb] at h; cases h
  | false => rw [hb] at h; exact ih h
theorem fdS_one (s : Sk) (c : Int) : fdS [s] c = cond (leb 0 (ixI s.2 c 0)) (s.1, ixI s.2 c 0, 0) ((0, 0, 0), 0, 7) := rfl
theorem sofar_0 {l : List Sk} {n : Nat} {id : Int} : fdS (sofar l n 0) id = fdS (l.take n) id := by
 unfold sofar
 rw [Int.toNat_natCast, fdS_app, fdS_one]
 cases h : (fdS (l.take n) id).2.2 == 0 with
 | true => rfl
 | false => rw [fdS_no h]; rfl
theorem sofar_step {l : List Sk} {n k : Nat} {id : Int} (hk : k < (tK l n).length) : fdS (sofar l n (k + 1)) id = cond ((fdS (sofar l n k) id).2.2 == 0) (fdS (sofar l n k) id) (cond ((tK l n)[k]?.getD 0 == id) ((tX l n, tY l n, tQ l n), (k : Int), 0) ((0, 0, 0), 0, 7)) := by
 unfold sofar
 rw [Int.toNat_natCast, fdS_app, fdS_app, fdS_one, fdS_one]
 cases h : (fdS (l.take n) id).2.2 == 0 with
 | true => simp only [cond_true, h]
 | false =>
  simp only [cond_false]
  have hk' : k < (gT l n).2.length := hk
  rw [itake hk', ixI_app _ _ _ _ (by omega)]
  have hl : (List.take k (gT l n).2).length = k := by rw [List.length_take]; omega
  cases hb : leb 0 (ixI (List.take k (gT l n).2) id 0) with
  | true => simp only [cond_true, hb]; rfl
  | false =>
   simp only [cond_false]
   rw [hl]
   show _ = cond ((7 : Int) == 0) _ _
   rw [show ((7 : Int) == 0) = false from rfl, cond_false]
   show cond (leb 0 (cond (id == (gT l n).2[k]?.getD 0) (0 + (k : Int)) (ixI [] id (0 + k + 1)))) _ _ = cond ((gT l n).2[k]?.getD 0 == id) _ _
   by_cases e : (gT l n).2[k]?.getD 0 = id
   ·rw [e, beq_self_eq_true, cond_true, cond_true, Int.zero_add, leb_iff.2 (by omega : (0 : Int) ≤ k)]
    show ((gT l n).1, cond (id == id) (k : Int) _, (0 : Int)) = _
    rw [beq_self_eq_true]; rfl
   ·rw [beq_false_of_ne e, beq_false_of_ne (fun h => e h.symm)]; rfl
theorem sofar_end {l : List Sk} {n k : Nat} {id : Int} (hn : n < l.length) (hk : k ≤ (tK l n).length) (h : ((fdS (sofar l n k) id).2.2 == 0) = true ∨ k = (tK l n).length) : fdS (sofar l n k) id = fdS (l.take (n + 1)) id := by
 rw [ttake hn]
 unfold sofar at h ⊢
 rw [Int.toNat_natCast, fdS_app, fdS_one] at h ⊢
 rw [fdS_app, fdS_one]
 cases hT : (fdS (l.take n) id).2.2 == 0 with
 | true => rfl
 | false =>
  rw [hT] at h
  simp only [cond_false] at h ⊢
  rcases h with h | h
  ·cases hb : leb 0 (ixI (List.take k (gT l n).2) id 0) with
   | false => rw [hb] at h; cases h
   | true =>
    have e : ixI (tK l n) id 0 = ixI (List.take k (gT l n).2) id 0 := by
     conv => lhs; rw [← List.take_append_drop k (tK l n)]
     rw [ixI_app _ _ _ _ (by omega)]
     show cond (leb 0 (ixI (List.take k (gT l n).2) id 0)) _ _ = _
     rw [hb]; rfl
    rw [e, hb]; rfl
  ·have e : List.take k (gT l n).2 = tK l n := by rw [h]; exact List.take_length
   rw [e]; rfl
theorem atL_app (c : Cl) : ∀ (a b : List Sk), atL (a ++ b) c = cond (hasT a c) (atL a c) (atL b c)
 | [], b => rfl
 | s :: a, b => by
  simp only [List.cons_append, atL, hasT]
  cases eqCl s.1 c with
  | true => rfl
  | false => exact atL_app c a b
theorem hasT_app (c : Cl) : ∀ (a b : List Sk), hasT (a ++ b) c = (hasT a c || hasT b c)
 | [], b => rfl
 | s :: a, b => by
  simp only [List.cons_append, hasT]
  cases eqCl s.1 c with
  | true => rfl
  | false => exact hasT_app c a b
theorem atL_no {l : List Sk} {c : Cl} (h : hasT l c = false) : atL l c = [] := by
 induction l with
 | nil => rfl
 | cons s l ih =>
  simp only [atL, hasT] at h ⊢
  cases hb : eqCl s.1 c with
  | true => rw [hb] at h; cases h
  | false => rw [hb] at h; exact ih h
theorem atL_mem {l : List Sk} {c : Cl} : atL l c = [] ∨ ∃ s ∈ l, s.2 = atL l c := by
 induction l with
 | nil => exact .inl rfl
 | cons s l ih =>
  simp only [atL]
  cases hb : eqCl s.1 c with
  | true => exact .inr ⟨s, List.mem_cons_self .., rfl⟩
  | false =>
   rcases ih with h | ⟨t, h, e⟩
   ·exact .inl h
   ·exact .inr ⟨t, List.mem_cons_of_mem _ h, e⟩
theorem at_yes {l : List Sk} {n : Nat} {c : Cl} (hn : n < l.length) (h : eqCl (tX l n, tY l n, tQ l n) c = true) : atL (l.take (n + 1)) c = cond (hasT (l.take n) c) (atL (l.take n) c) (tK l n) ∧ hasT (l.take (n + 1)) c = true := by
 rw [ttake hn, atL_app, hasT_app]
 show cond _ _ (cond (eqCl (tX l n, tY l n, tQ l n) c) (tK l n) []) = _ ∧ (_ || cond (eqCl (tX l n, tY l n, tQ l n) c) true false) = _
 rw [h]
 exact ⟨rfl, by simp⟩
theorem at_not {l : List Sk} {n : Nat} {c : Cl} (hn : n < l.length) (h : eqCl (tX l n, tY l n, tQ l n) c = false) : atL (l.take (n + 1)) c = atL (l.take n) c ∧ hasT (l.take (n + 1)) c = hasT (l.take n) c := by
 rw [ttake hn, atL_app, hasT_app]
 show cond _ _ (cond (eqCl (tX l n, tY l n, tQ l n) c) (tK l n) []) = _ ∧ (_ || cond (eqCl (tX l n, tY l n, tQ l n) c) true false) = _
 rw [h]
 cases hh : hasT (l.take n) c with
 | true => exact ⟨rfl, rfl⟩
 | false => exact ⟨(atL_no hh).symm, rfl⟩
theorem hgt_step {l : List Sk} {n : Nat} (hn : n < l.length) : hgt (l.take (n + 1)) = max (hgt (l.take n)) (tK l n).length := by
 rw [ttake hn, hgt_app]
 show max _ (max (tK l n).length 0) = _
 rw [Nat.max_zero]
theorem ch19ok : ChOk Tryd.prog G ch19 := by
 intro h cv args r hr hp
 unfold ch19 at hr
 split at hr
 ·rw [cond_eq_ite] at hr
  split at hr
  ·rename_i hc
   simp only [Bool.and_eq_true] at hc
   cases Nat.eq_of_beq_eq_true hc.1
   cases Nat.eq_of_beq_eq_true hc.2
   cases hr
   obtain ⟨rfl, rfl, rfl, rfl, h1, h2⟩ := hp
   exact sp19d _ _ h1 h2
  ·cases hr
 ·cases hr
theorem ct18z : CtOk Tryd.prog G 18 e18z := by
 intro args r h hp
 unfold e18z at h
 split at h <;> cases h
 rename_i a n _ x y q
 obtain ⟨hp, h0⟩ := hp
 have := ct18f [.imm (.vals a) n none, .agg [.int .i64 x, .int .i64 y, .int .u8 q]] ⟨layC (atL (unT a) (x, y, q)), [], some (okT a n)⟩ rfl hp
 rw [h0] at this
 exact this.caps
theorem TH3ok : TabOk Tryd.prog G TH3 := tabL_ok ch19ok ⟨ct15, ct16, ct17, ct18p, ct20, ct21, trivial⟩
theorem TH3zok : TabOk Tryd.prog G TH3z := tabL_ok noCh_ok ⟨ct15, ct16, ct17, ct18z, ct19, ct20, ct21, trivial⟩
theorem set_map {a : List Int} {n : Nat} (h : n < a.length) : ((a.take n).map (· + 1) ++ a.drop n).set n ((((a.take n).map (· + 1) ++ a.drop n)[n]?.getD 0) + 1) = (a.take (n + 1)).map (· + 1) ++ a.drop (n + 1) := by
 have hl : ((a.take n).map (· + 1)).length = n := by rw [List.length_map, List.length_take]; omega
 rw [List.getElem?_append_right (by omega), hl, Nat.sub_self, List.getElem?_drop, Nat.add_zero, List.getElem?_eq_getElem h]
 rw [List.set_append, if_neg (by omega), hl, Nat.sub_self, List.drop_eq_getElem_cons h, List.set_cons_zero, List.take_add_one, List.getElem?_eq_getElem h, List.map_append, List.append_assoc]
 rfl
theorem map_at {a : List Int} {n : Nat} (h : n < a.length) : (((a.take n).map (· + 1) ++ a.drop n)[n]?.getD 0) = a[n] := by
 have hl : ((a.take n).map (· + 1)).length = n := by rw [List.length_map, List.length_take]; omega
 rw [List.getElem?_append_right (by omega), hl, Nat.sub_self, List.getElem?_drop, Nat.add_zero, List.getElem?_eq_getElem h]; rfl
theorem map_len {a : List Int} {n : Nat} : ((a.take n).map (· + 1) ++ a.drop n).length = a.length := by
 rw [List.length_append, List.length_map, List.length_take, List.length_drop]; omega
theorem in3_pre {l : List Sk} {n : Nat} {id : Int} {x y q m : Int} {f : Bool} (h1 : (((x, y, q), m) : Cl × Int) = ((fdS (l.take n) id).1, (fdS (l.take n) id).2.1)) (h2 : f = ((fdS (l.take n) id).2.2 == 0)) :
  ∃ k : Nat, (0 : Int) = k ∧ k ≤ (tK l n).length ∧ (((x, y, q), m) : Cl × Int) = ((fdS (sofar l n k) id).1, (fdS (sofar l n k) id).2.1) ∧ f = ((fdS (sofar l n k) id).2.2 == 0) :=
 ⟨0, rfl, by omega, by rw [sofar_0]; exact h1, by rw [sofar_0]; exact h2⟩
theorem in3_yes {l : List Sk} {n k : Nat} {id : Int} {f : Bool} (hk : k < (tK l n).length) (hf : (!f) = true) (h2 : f = ((fdS (sofar l n k) id).2.2 == 0)) (he : ((tK l n)[k]?.getD 0 == id) = true) :
  ∃ j : Nat, (k : Int) + 1 = j ∧ j ≤ (tK l n).length ∧ (((tX l n, tY l n, tQ l n), (k : Int)) : Cl × Int) = ((fdS (sofar l n j) id).1, (fdS (sofar l n j) id).2.1) ∧ true = ((fdS (sofar l n j) id).2.2 == 0) := by
 rw [Bool.not_eq_true'] at hf
 refine ⟨k + 1, by omega, by omega, ?_⟩
 rw [sofar_step hk, ← h2, hf, he]
 exact ⟨rfl, rfl⟩
theorem in3_no {l : List Sk} {n k : Nat} {id : Int} {x y q m : Int} {f : Bool} (hk : k < (tK l n).length) (hf : (!f) = true) (h1 : (((x, y, q), m) : Cl × Int) = ((fdS (sofar l n k) id).1, (fdS (sofar l n k) id).2.1)) (h2 : f = ((fdS (sofar l n k) id).2.2 == 0)) (he : ((tK l n)[k]?.getD 0 == id) = false) :
  ∃ j : Nat, (k : Int) + 1 = j ∧ j ≤ (tK l n).length ∧ (((x, y, q), m) : Cl × Int) = ((fdS (sofar l n j) id).1, (fdS (sofar l n j) id).2.1) ∧ f = ((fdS (sofar l n j) id).2.2 == 0) := by
 rw [Bool.not_eq_true'] at hf
 have hn : ((fdS (sofar l n k) id).2.2 == 0) = false := by rw [← h2]; exact hf
 rw [fdS_no hn] at h1
 refine ⟨k + 1, by omega, by omega, ?_⟩
 rw [sofar_step hk, hn, he]
 exact ⟨h1, hf⟩
theorem in3_end {l : List Sk} {n k : Nat} {c : Cl} {id h : Int} {x y q m : Int} {f s : Bool} {a : List Int} (hn : n < l.length) (hk : k ≤ (tK l n).length) (hf : (!f) = false ∨ (tK l n).length ≤ k) (h1 : (((x, y, q), m) : Cl × Int) = ((fdS (sofar l n k) id).1, (fdS (sofar l n k) id).2.1)) (h2 : f = ((fdS (sofar l n k) id).2.2 == 0))
  (hh : h = ((max (hgt (l.take n)) (tK l n).length : Nat) : Int)) (ha : a = atL (l.take (n + 1)) c) (hs : s = hasT (l.take (n + 1)) c) :
  (∃ j : Nat, (n : Int) + 1 = j ∧ j ≤ l.length ∧ h = (hgt (l.take j) : Nat) ∧ a = atL (l.take j) c ∧ s = hasT (l.take j) c ∧ (((x, y, q), m) : Cl × Int) = ((fdS (l.take j) id).1, (fdS (l.take j) id).2.1) ∧ f = ((fdS (l.take j) id).2.2 == 0)) ∧ l.length - ((n : Int) + 1).toNat < l.length - n := by
 have e := sofar_end (id := id) hn hk (by
  rcases hf with hf | hf
  ·left; rw [← h2]; simpa using hf
  ·right; omega)
 refine ⟨⟨n + 1, by omega, by omega, by rw [hgt_step hn]; exact hh, ha, hs, ?_, ?_⟩, by rw [show ((n : Int) + 1).toNat = n + 1 by omega]; omega⟩
 ·rw [← e]; exact h1
 ·rw [← e]; exact h2
theorem sp3 (l : List Sk) (c : Cl) (id : Int) (hr : rawT l) : SpecP Tryd.prog G 3 [.imm (.vals (flatR l)) l.length none, clV c, .int .i64 id] (.bool true) [] := by
 obtain ⟨x, y, q⟩ := c
 have hL : l.length < 1000000 ∨ True := .inr trivial
 have okS := stO_ok l
 have lenS := stO_len l
 have layS := stO_lay (l := l)
 have rngS := stO_rng hr
 have eR := unR l
 generalize hS : stO l = t at *
 cases h0 : atL t (x, y, q) with
 | nil =>
  refine fnP_spec hcm hmx TH3zok ok3 rfl (ob_o3z l x y q id) ?_
  rw [eR, hS]
  have e2 := unT_flat t
  simp only [e2, ltb_iff, ltb_no, leb_iff, leb_no, len'_iff, ltn_iff, inR_i64, and_true, true_and, size_vals, size_ints, iI, drop0, flatT_len, List.getD_eq_getElem?_getD, List.getElem?_drop, Nat.add_zero, forall_const, eqK_iff.2 rfl, eqT_iff.2 rfl]
  refine ⟨hr, ⟨⟨0, rfl, by omega, rfl, rfl, rfl, rfl, rfl⟩, ?_⟩, ?_⟩
  ·rintro ⟨i, h, m, a, f, s, cx, cy, cq⟩ ⟨n, hi, hn, hh, ha, hs, h1, h2⟩
   simp only at hi hh ha hs h1 h2 ⊢
   subst hi
   simp only [Int.toNat_natCast]
   refine ⟨fun hlt => ?_, fun hge => ?_⟩
   ·have g : n < t.length := by omega
    obtain ⟨a0, a1, a2, a3⟩ := tget g
    simp only [List.getElem?_drop, Nat.add_zero] at a0 a1 a2 a3
    have l8 := layS _ (tmem g)
    simp only at l8
    refine ⟨by omega, by omega, by omega, a3, fun hm => ⟨by omega, by omega, by omega, a3, (by
     refine ⟨fun he => ?_, fun he => ?_⟩
     ·obtain ⟨y1, y2⟩ := at_yes (c := (x, y, q)) g he
      refine ⟨by omega, by omega, by omega, a0, a1, a2, he, he, he, fun hs' => ?_, fun hs' => ?_⟩
      ·rw [Bool.not_eq_true', hs] at hs'
       rw [hs'] at y1
       rw [y1, y2]; exact ⟨by omega, by omega, by omega, a3, rfl, rfl, rfl⟩
      ·rw [Bool.not_eq_false', hs] at hs'
       rw [hs'] at y1
       rw [y1, y2, ha, hs, hs']; exact ⟨rfl, rfl, rfl⟩
     ·obtain ⟨y1, y2⟩ := at_not (c := (x, y, q)) g he
      rw [y1, y2, ha, hs]
      exact ⟨by omega, by omega, by omega, a0, a1, a2, by rw [he]; rfl, by rw [he]; rfl, by rw [he]; rfl, rfl, rfl, rfl⟩), in3_pre h1 h2, (by
     rintro ⟨k, m', f', cx', cy', cq'⟩ ⟨j, hk, hj, g1, g2⟩
     simp only at hk g1 g2 ⊢
     subst hk
     simp only [Int.toNat_natCast]
     refine ⟨by omega, by omega, by omega, a3, fun hk => ⟨fun hf => ?_, fun hf => ?_⟩, fun hk => ?_⟩
     ·have gj : j < (tK t n).length := by omega
      refine ⟨by omega, by omega, by omega, a3, by omega, by omega, by omega, by rw [List.length_drop]; omega, fun he => ?_, fun he => ?_⟩
      ·exact ⟨by omega, by omega, by omega, a0, a1, a2, by omega, in3_yes gj hf g2 he, by omega⟩
      ·exact ⟨by omega, in3_no gj hf g1 g2 he, by omega⟩
     ·exact ⟨by omega, in3_end g hj (.inl hf) g1 g2 (by omega) rfl rfl⟩
     ·exact ⟨by omega, in3_end g hj (.inr (by omega)) g1 g2 (by omega) rfl rfl⟩)⟩, fun hm => ⟨(by
     refine ⟨fun he => ?_, fun he => ?_⟩
     ·obtain ⟨y1, y2⟩ := at_yes (c := (x, y, q)) g he
      refine ⟨by omega, by omega, by omega, a0, a1, a2, he, he, he, fun hs' => ?_, fun hs' => ?_⟩
      ·rw [Bool.not_eq_true', hs] at hs'
       rw [hs'] at y1
       rw [y1, y2]; exact ⟨by omega, by omega, by omega, a3, rfl, rfl, rfl⟩
      ·rw [Bool.not_eq_false', hs] at hs'
       rw [hs'] at y1
       rw [y1, y2, ha, hs, hs']; exact ⟨rfl, rfl, rfl⟩
     ·obtain ⟨y1, y2⟩ := at_not (c := (x, y, q)) g he
      rw [y1, y2, ha, hs]
      exact ⟨by omega, by omega, by omega, a0, a1, a2, by rw [he]; rfl, by rw [he]; rfl, by rw [he]; rfl, rfl, rfl, rfl⟩), in3_pre h1 h2, (by
     rintro ⟨k, m', f', cx', cy', cq'⟩ ⟨j, hk, hj, g1, g2⟩
     simp only at hk g1 g2 ⊢
     subst hk
     simp only [Int.toNat_natCast]
     refine ⟨by omega, by omega, by omega, a3, fun hk => ⟨fun hf => ?_, fun hf => ?_⟩, fun hk => ?_⟩
     ·have gj : j < (tK t n).length := by omega
      refine ⟨by omega, by omega, by omega, a3, by omega, by omega, by omega, by rw [List.length_drop]; omega, fun he => ?_, fun he => ?_⟩
      ·exact ⟨by omega, by omega, by omega, a0, a1, a2, by omega, in3_yes gj hf g2 he, by omega⟩
      ·exact ⟨by omega, in3_no gj hf g1 g2 he, by omega⟩
     ·exact ⟨by omega, in3_end g hj (.inl hf) g1 g2 (by omega) rfl rfl⟩
     ·exact ⟨by omega, in3_end g hj (.inr (by omega)) g1 g2 (by omega) rfl rfl⟩)⟩⟩
   ·have en : n = t.length := by omega
    rw [en, List.take_length] at hh ha h1 h2
    simp only [Prod.mk.injEq] at h1
    obtain ⟨h1a, h1d⟩ := h1
    rw [hh, ha, h2, h1d, ← h1a]
    simp
  ·have bb : (!!((fdS t id).fst.fst == (fdS t id).fst.fst && ((fdS t id).fst.snd.fst == (fdS t id).fst.snd.fst && (fdS t id).fst.snd.snd == (fdS t id).fst.snd.snd))) = true := by simp
   have b2 : (!(fdS t id).snd.fst != (fdS t id).snd.fst) = true := by simp
   have b3 : ((hgt t : Int) != hgt t) = false := by simp
   have s0 : smK [] := by unfold smK; decide
   rw [h0]
   exact ⟨fun hb => ⟨⟨okS, hb, by simpa using hb⟩, bb, b2, okS, b3, ⟨okS, rfl⟩, ⟨s0, s0⟩, rfl, hr, okS, okS⟩, fun hb => ⟨⟨okS, hb, by rw [fdS_no hb]⟩, bb, b2, okS, b3, ⟨okS, rfl⟩, ⟨s0, s0⟩, rfl, hr, okS, okS⟩⟩
 | cons a0 ar =>
  have hpos : 0 < (atL t (x, y, q)).length := by rw [h0]; simp
  clear h0
  refine fnP_spec hcm hmx TH3ok ok3 rfl (ob_o3a l x y q id) ?_
  rw [eR, hS]
  have e2 := unT_flat t
  simp only [e2, ltb_iff, ltb_no, leb_iff, leb_no, len'_iff, ltn_iff, inR_i64, and_true, true_and, size_vals, size_ints, iI, drop0, flatT_len, List.getD_eq_getElem?_getD, List.getElem?_drop, Nat.add_zero, forall_const, eqK_iff.2 rfl, eqT_iff.2 rfl]
  refine ⟨hr, ⟨⟨0, rfl, by omega, rfl, rfl, rfl, rfl, rfl⟩, ?_⟩, ?_⟩
  ·rintro ⟨i, h, m, a, f, s, cx, cy, cq⟩ ⟨n, hi, hn, hh, ha, hs, h1, h2⟩
   simp only at hi hh ha hs h1 h2 ⊢
   subst hi
   simp only [Int.toNat_natCast]
   refine ⟨fun hlt => ?_, fun hge => ?_⟩
   ·have g : n < t.length := by omega
    obtain ⟨a0, a1, a2, a3⟩ := tget g
    simp only [List.getElem?_drop, Nat.add_zero] at a0 a1 a2 a3
    have l8 := layS _ (tmem g)
    simp only at l8
    refine ⟨by omega, by omega, by omega, a3, fun hm => ⟨by omega, by omega, by omega, a3, (by
     refine ⟨fun he => ?_, fun he => ?_⟩
     ·obtain ⟨y1, y2⟩ := at_yes (c := (x, y, q)) g he
      refine ⟨by omega, by omega, by omega, a0, a1, a2, he, he, he, fun hs' => ?_, fun hs' => ?_⟩
      ·rw [Bool.not_eq_true', hs] at hs'
       rw [hs'] at y1
       rw [y1, y2]; exact ⟨by omega, by omega, by omega, a3, rfl, rfl, rfl⟩
      ·rw [Bool.not_eq_false', hs] at hs'
       rw [hs'] at y1
       rw [y1, y2, ha, hs, hs']; exact ⟨rfl, rfl, rfl⟩
     ·obtain ⟨y1, y2⟩ := at_not (c := (x, y, q)) g he
      rw [y1, y2, ha, hs]
      exact ⟨by omega, by omega, by omega, a0, a1, a2, by rw [he]; rfl, by rw [he]; rfl, by rw [he]; rfl, rfl, rfl, rfl⟩), in3_pre h1 h2, (by
     rintro ⟨k, m', f', cx', cy', cq'⟩ ⟨j, hk, hj, g1, g2⟩
     simp only at hk g1 g2 ⊢
     subst hk
     simp only [Int.toNat_natCast]
     refine ⟨by omega, by omega, by omega, a3, fun hk => ⟨fun hf => ?_, fun hf => ?_⟩, fun hk => ?_⟩
     ·have gj : j < (tK t n).length := by omega
      refine ⟨by omega, by omega, by omega, a3, by omega, by omega, by omega, by rw [List.length_drop]; omega, fun he => ?_, fun he => ?_⟩
      ·exact ⟨by omega, by omega, by omega, a0, a1, a2, by omega, in3_yes gj hf g2 he, by omega⟩
      ·exact ⟨by omega, in3_no gj hf g1 g2 he, by omega⟩
     ·exact ⟨by omega, in3_end g hj (.inl hf) g1 g2 (by omega) rfl rfl⟩
     ·exact ⟨by omega, in3_end g hj (.inr (by omega)) g1 g2 (by omega) rfl rfl⟩)⟩, fun hm => ⟨(by
     refine ⟨fun he => ?_, fun he => ?_⟩
     ·obtain ⟨y1, y2⟩ := at_yes (c := (x, y, q)) g he
      refine ⟨by omega, by omega, by omega, a0, a1, a2, he, he, he, fun hs' => ?_, fun hs' => ?_⟩
      ·rw [Bool.not_eq_true', hs] at hs'
       rw [hs'] at y1
       rw [y1, y2]; exact ⟨by omega, by omega, by omega, a3, rfl, rfl, rfl⟩
      ·rw [Bool.not_eq_false', hs] at hs'
       rw [hs'] at y1
       rw [y1, y2, ha, hs, hs']; exact ⟨rfl, rfl, rfl⟩
     ·obtain ⟨y1, y2⟩ := at_not (c := (x, y, q)) g he
      rw [y1, y2, ha, hs]
      exact ⟨by omega, by omega, by omega, a0, a1, a2, by rw [he]; rfl, by rw [he]; rfl, by rw [he]; rfl, rfl, rfl, rfl⟩), in3_pre h1 h2, (by
     rintro ⟨k, m', f', cx', cy', cq'⟩ ⟨j, hk, hj, g1, g2⟩
     simp only at hk g1 g2 ⊢
     subst hk
     simp only [Int.toNat_natCast]
     refine ⟨by omega, by omega, by omega, a3, fun hk => ⟨fun hf => ?_, fun hf => ?_⟩, fun hk => ?_⟩
     ·have gj : j < (tK t n).length := by omega
      refine ⟨by omega, by omega, by omega, a3, by omega, by omega, by omega, by rw [List.length_drop]; omega, fun he => ?_, fun he => ?_⟩
      ·exact ⟨by omega, by omega, by omega, a0, a1, a2, by omega, in3_yes gj hf g2 he, by omega⟩
      ·exact ⟨by omega, in3_no gj hf g1 g2 he, by omega⟩
     ·exact ⟨by omega, in3_end g hj (.inl hf) g1 g2 (by omega) rfl rfl⟩
     ·exact ⟨by omega, in3_end g hj (.inr (by omega)) g1 g2 (by omega) rfl rfl⟩)⟩⟩
   ·have en : n = t.length := by omega
    rw [en, List.take_length] at hh ha h1 h2
    simp only [Prod.mk.injEq] at h1
    obtain ⟨h1a, h1d⟩ := h1
    rw [hh, ha, h2, h1d, ← h1a]
    simp
  ·have bb : (!!((fdS t id).fst.fst == (fdS t id).fst.fst && ((fdS t id).fst.snd.fst == (fdS t id).fst.snd.fst && (fdS t id).fst.snd.snd == (fdS t id).fst.snd.snd))) = true := by simp
   have b2 : (!(fdS t id).snd.fst != (fdS t id).snd.fst) = true := by simp
   have b3 : ((hgt t : Int) != hgt t) = false := by simp
   have sk : smK (atL t (x, y, q)) ∧ ∀ k ∈ atL t (x, y, q), 0 ≤ k ∧ k ≤ 255 := by
    rcases atL_mem (l := t) (c := (x, y, q)) with h | ⟨s, hs, e⟩
    ·rw [h] at hpos; simp at hpos
    ·rw [← e]
     have := layS s hs
     exact ⟨by unfold smK; omega, rngS s hs⟩
   have L : (∃ n : Nat, (0 : Int) = n ∧ n ≤ (atL t (x, y, q)).length ∧ atL t (x, y, q) = List.map (fun (x : Int) => x + 1) (List.take n (atL t (x, y, q))) ++ List.drop n (atL t (x, y, q))) := ⟨0, rfl, by omega, by simp⟩
   have sz : (atL t (x, y, q)).length < 1000000 := sk.1
   generalize hA : atL t (x, y, q) = a at *
   refine ⟨fun hb => ⟨⟨okS, hb, by simpa using hb⟩, bb, b2, okS, b3, ⟨okS, hpos⟩, ⟨sk.1, sk.1⟩, rfl, L, ?_⟩, fun hb => ⟨⟨okS, hb, by rw [fdS_no hb]⟩, bb, b2, okS, b3, ⟨okS, hpos⟩, ⟨sk.1, sk.1⟩, rfl, L, ?_⟩⟩ <;>
   ·rintro ⟨i, o⟩ ⟨n, hi, hn, ho⟩
    simp only at hi ho ⊢
    subst hi ho
    simp only [Int.toNat_natCast]
    refine ⟨fun hlt => ?_, fun hge => ⟨hr, okS, okS⟩⟩
    have g : n < a.length := by omega
    have hv := sk.2 _ (List.getElem_mem g)
    rw [map_at g, map_len]
    refine ⟨by omega, by omega, by omega, by omega, by omega, by omega, by omega, by omega, ⟨n + 1, by omega, by omega, ?_⟩, by omega⟩
    rw [← set_map g, map_at g]
end Go.Proofs.YtmnaghfndigfkaaDoor.X
