/-
 Cones: comparing lists (told of the whole world); the first of the orders that are the same.
-/
import Derived.Test.YthiammkiobbclaaGreatDoorO8Z
import Derived.Test.YthiammkiobbclaaGreatDoorO8sZ
import Derived.Test.YthiammkiobbclaaGreatDoorO8bZ
import Derived.Test.YthiammkiobbclaaGreatDoorC7Z
set_option maxRecDepth 1000000
set_option linter.unusedVariables false
set_option linter.unusedSimpArgs false
namespace Go.Proofs.YthiammkiobbclaaGreatDoor.X
open Go Go.Ab

/-! ### Comparing -/
theorem S0ok : TabOk Tryz.prog Gs T0 := tabL_ok (l := []) noCh_ok trivial
theorem sct104 : CtOk Tryz.prog Gs 104 e104 := by
 intro args r h hp
 unfold e104 at h
 split at h <;> cases h
 refine fnP_spec hcmS hmx S0ok ok104 rfl (ob_o104 _) ?_
 simp
theorem TS1ok : TabOk Tryz.prog Gs TS1 := tabL_ok noCh_ok ⟨sct104, trivial⟩
theorem sct85 : CtOk Tryz.prog Gs 85 e85c := by
 intro args r h hp
 unfold e85c at h
 split at h <;> cases h
 refine fnP_spec hcmS hmx TS1ok ok85 rfl (ob_o85c _ _) ?_
 simp only [ltb_iff, ltb_no, and_true]
 unfold cmI
 refine ⟨fun h => by rw [if_pos h], fun h => ⟨fun h' => ?_, fun h' => ?_⟩⟩
 ·rw [if_neg (by omega), if_pos h']
 ·rw [if_neg (by omega), if_neg (by omega)]
theorem TS2ok : TabOk Tryz.prog Gs TS2 := tabL_ok noCh_ok ⟨sct85, trivial⟩
theorem cmpL_step {a b : List Int} {m : Nat} (h1 : m < a.length) (h2 : m < b.length) : cmpL (a.drop m) (b.drop m) = if cmI (a[m]?.getD 0) (b[m]?.getD 0) = 0 then cmpL (a.drop (m + 1)) (b.drop (m + 1)) else cmI (a[m]?.getD 0) (b[m]?.getD 0) := by
 rw [drop_step h1, drop_step h2]; rfl
theorem sp62s (a b : List Int) (ha : a.length < 1000000000) (hb : b.length < 1000000000) : SpecP Tryz.prog Gs 62 [immN .i64 a, immN .i64 b] (.int .i64 (cmpL a b)) [] := by
 refine fnP_spec hcmS hmx TS2ok ok62 rfl (ob_o62c a b) ?_
 dsimp -failIfUnchanged -proj -eta -iota -zeta only
 simp only [inR_i64, and_true, true_and, leb_iff, leb_no, ltb_iff, ltb_no, ltn_iff, iI, size_ints, List.length_drop, List.getD_eq_getElem?_getD, List.getElem?_drop, Nat.add_zero, bne_iff_ne, ne_eq, bne_eq_false_iff_eq]
 refine ⟨⟨0, rfl, by omega, by omega, rfl⟩, ?_⟩
 rintro ⟨i⟩ ⟨m, hi, hm, hn, he⟩
 simp only at hi ⊢
 subst hi
 simp only [Int.toNat_natCast]
 refine ⟨fun h1 => ⟨by omega, by omega, by omega, by omega, fun h2 => ?_, fun h2 => ?_⟩, fun h1 => ⟨fun h2 => ?_, fun h2 => ?_⟩⟩
 ·rw [← he, drop_end (l := b) (by omega), drop_step (l := a) (by omega)]; rfl
 ·rw [cmpL_step (by omega) (by omega)] at he
  refine ⟨by omega, by omega, by omega, by omega, fun h3 => ?_, fun h3 => ?_⟩
  ·rw [if_neg h3] at he; exact he
  ·rw [if_pos h3] at he
   exact ⟨by omega, ⟨m + 1, by omega, by omega, by omega, he⟩, by omega⟩
 ·rw [← he, drop_end (l := a) (by omega), drop_step (l := b) (by omega)]; rfl
 ·rw [← he, drop_end (l := a) (by omega), drop_end (l := b) (by omega)]; rfl
/-! ### Contains on the heap -/
theorem sp90h (l : List Int) (q : Nat) (x : Int) (hz : l.length < 1000000) : SpecD Tryz.prog G (.fn 90 [] []) [.full 194 l.length, .int .i64 x] [(194, .blk (bk60 l q))] (.int .i64 (idxL x l 0)) [] [] := by
 refine fnD_spec hcm hmx T0ok ok90 rfl (ob_d_90 l q x) ?_
 simp only [inR_i64, and_true, true_and, leb_iff, leb_no, ltb_iff, ltb_no, ltn_iff, iI, size_ints, List.length_drop, List.getD_eq_getElem?_getD, List.getElem?_drop, Nat.add_zero, beq_iff_eq, beq_eq_false_iff_ne, ne_eq]
 refine ⟨⟨0, rfl, by omega, rfl⟩, ?_⟩
 rintro ⟨i⟩ ⟨m, hi, hm, he⟩
 simp only at hi ⊢
 subst hi
 simp only [Int.toNat_natCast]
 refine ⟨fun h1 => ⟨by omega, by omega, by omega, fun h2 => ?_, fun h2 => ?_⟩, fun h1 => ?_⟩
 ·rw [idxL_step (by omega), if_pos h2] at he; exact he
 ·rw [idxL_step (by omega), if_neg h2] at he
  exact ⟨by omega, ⟨m + 1, by omega, by omega, he⟩, by omega⟩
 ·rw [idxL_end (by omega)] at he; exact he
theorem ch90_ok (q : Nat) : ∀ h cv args r, ch90 q h cv args = some r → optP r.p → SpecD Tryz.prog G cv args h r.v r.ws [] := by
 intro h cv args r he hp
 unfold ch90 at he
 split at he
 ·rename_i f i n x k l _ _ _ _ _ _ hh
  rw [cond_eq_ite] at he
  split at he
  ·rename_i hk
   cases he
   rw [Bool.and_eq_true] at hk
   have e1 := Nat.eq_of_beq_eq_true hk.1
   have e2 := Nat.eq_of_beq_eq_true hk.2
   subst e1 e2
   obtain ⟨rfl, rfl, hz⟩ := hp
   exact sp90h l q x hz
  ·cases he
 ·cases he
theorem sp72h (l : List Int) (q : Nat) (x : Int) (hz : l.length < 1000000) : SpecD Tryz.prog G (.fn 72 [] []) [.full 194 l.length, .int .i64 x] [(194, .blk (bk60 l q))] (.bool (memB l x)) [] [] := by
 refine fnD_spec hcm hmx (tabL_ok (l := []) (ch90_ok q) trivial) ok72 rfl (ob_d_72 l q x) ?_
 simp [hz, memB]
theorem ch60_ok (q : Nat) : ∀ h cv args r, ch60 q h cv args = some r → optP r.p → SpecD Tryz.prog G cv args h r.v r.ws [] := by
 intro h cv args r he hp
 unfold ch60 at he
 split at he
 ·rename_i f i n x k l _ _ _ _ _ _ hh
  rw [cond_eq_ite] at he
  split at he
  ·rename_i hk
   cases he
   rw [Bool.and_eq_true] at hk
   have e1 := Nat.eq_of_beq_eq_true hk.1
   have e2 := Nat.eq_of_beq_eq_true hk.2
   subst e1 e2
   obtain ⟨rfl, rfl, hz⟩ := hp
   exact sp72h l q x hz
  ·cases he
 ·cases he
theorem T60ok (q : Nat) : TabOk Tryz.prog G (T60 q) := tabL_ok (ch60_ok q) ⟨ct51, ct82, trivial⟩
/-! ### The first of the orders that are the same -/
theorem rkF_len : ∀ (o : List Int) (rk : List Int) (i : Int), (rkA rk i o).length = rk.length
 | [], rk, i => rfl
 | x :: r, rk, i => by unfold rkA; rw [rkF_len r, List.length_set]
theorem rkF8 (o : List Int) : (rkF o).length = 8 := by unfold rkF; rw [rkF_len]; rfl
theorem list8 : ∀ (l : List Int), l.length = 8 → [gR l 0, gR l 1, gR l 2, gR l 3, gR l 4, gR l 5, gR l 6, gR l 7] = l
 | [a, b, c, d, e, f, g, h], _ => rfl
theorem rkL_eq (o : List Int) : rkL o = rkF o := list8 _ (rkF8 o)
theorem sub_len : ∀ (l o : List Int), l.Nodup → (∀ x ∈ l, x ∈ o) → l.length ≤ o.length
 | [], o, _, _ => Nat.zero_le _
 | x :: r, o, hn, hs => by
  have hx := hs x (List.mem_cons_self ..)
  obtain ⟨hxr, hn⟩ := List.nodup_cons.1 hn
  have := sub_len r (o.erase x) hn fun y hy => (List.mem_erase_of_ne fun e => hxr (by rw [← e]; exact hy)).2 (hs y (List.mem_cons_of_mem _ hy))
  rw [List.length_erase_of_mem hx] at this
  have : 0 < o.length := List.length_pos_of_mem hx
  rw [List.length_cons]; omega
theorem memB_no {l : List Int} {x : Int} : memB l x = false ↔ x ∉ l := by
 rw [← Bool.not_eq_true, memB_true]
theorem free_ex {out : List Int} {n : Nat} (h : out.length < n) : ∃ i : Nat, i < n ∧ memB out i = false := by
 refine Classical.byContradiction fun hc => ?_
 have : (idO n).length ≤ out.length := sub_len _ _ (idO_nodup n) fun x hx => by
  obtain ⟨h0, h1⟩ := idO_mem.1 hx
  refine Classical.byContradiction fun hx' => hc ⟨x.toNat, by omega, memB_no.2 ?_⟩
  rwa [show ((x.toNat : Nat) : Int) = x by omega]
 rw [idO_len] at this; omega
theorem least_ex (rk out : List Int) : ∀ n : Nat, (∃ i : Nat, i < n ∧ memB out i = false) → ∃ i : Nat, i < n ∧ memB out i = false ∧ ∀ k : Nat, k < n → memB out k = false → gR rk i ≤ gR rk k
 | 0, ⟨i, h, _⟩ => by omega
 | n + 1, ⟨i, h, hi⟩ => by
  by_cases hx : ∃ i : Nat, i < n ∧ memB out i = false
  ·obtain ⟨j, hj, hj1, hj2⟩ := least_ex rk out n hx
   by_cases hn : memB out n = false ∧ gR rk n < gR rk j
   ·refine ⟨n, by omega, hn.1, fun k hk hm => ?_⟩
    by_cases hk' : k < n
    ·have := hj2 k hk' hm; omega
    ·rw [show k = n by omega]; omega
   ·refine ⟨j, by omega, hj1, fun k hk hm => ?_⟩
    by_cases hk' : k < n
    ·exact hj2 k hk' hm
    ·rw [show k = n by omega] at hm ⊢
     rcases Int.lt_or_le (gR rk n) (gR rk j) with h | h
     ·exact absurd ⟨hm, h⟩ hn
     ·exact h
  ·have : i = n := Classical.byContradiction fun hc => hx ⟨i, by omega, hi⟩
   subst this
   refine ⟨i, by omega, hi, fun k hk hm => ?_⟩
   by_cases hk' : k < i
   ·exact absurd ⟨k, hk', hm⟩ hx
   ·rw [show k = i by omega]; omega
theorem frK_ex {r rk out : List Int} {n : Nat} (h : out.length < n) : ∃ i : Nat, i < n ∧ frK r rk out i n = true := by
 obtain ⟨i, h1, h2, h3⟩ := least_ex rk out n (free_ex h)
 refine ⟨i, h1, ?_⟩
 unfold frK
 rw [h2, Bool.not_false, Bool.true_and, List.all_eq_true]
 intro k hk
 unfold frC
 cases hm : memB out k with
 | true => rfl
 | false => rw [leb_iff.2 (h3 k (List.mem_range.1 hk) hm)]; rfl
theorem fr1_of {r rk out : List Int} {n m : Nat} (h1 : m < n) (h2 : frK r rk out m n = true) (h3 : ∀ j : Nat, j < m → frK r rk out j n = false) : fr1 r rk n out = (m : Int) := by
 unfold fr1
 have : (List.range n).find? (fun (i : Nat) => frK r rk out (i : Int) n) = some m := by
  rw [List.find?_range_eq_some]
  refine ⟨h2, List.mem_range.2 h1, fun j hj => ?_⟩
  rw [h3 j hj]; rfl
 rw [this]; rfl
theorem fr1_ok {r rk out : List Int} {n : Nat} (h : out.length < n) : ∃ m : Nat, m < n ∧ fr1 r rk n out = (m : Int) ∧ frK r rk out m n = true := by
 obtain ⟨i, h1, h2⟩ := frK_ex (r := r) (rk := rk) h
 cases hf : (List.range n).find? (fun (i : Nat) => frK r rk out (i : Int) n) with
 | none => exact absurd (List.find?_eq_none.1 hf i (List.mem_range.2 h1)) (by simp [h2])
 | some m => exact ⟨m, List.mem_range.1 (List.mem_of_find?_eq_some hf), by unfold fr1; rw [hf]; rfl, by simpa using List.find?_some (p := fun (i : Nat) => frK r rk out (i : Int) n) hf⟩
theorem lstN_len (r rk : List Int) (n : Nat) : ∀ m, (lstN r rk n m).length = m
 | 0 => rfl
 | m + 1 => by unfold lstN; rw [List.length_append, lstN_len r rk n m]; rfl
theorem lstN_ok (r rk : List Int) (n : Nat) : ∀ m, m ≤ n → (lstN r rk n m).Nodup ∧ ∀ x ∈ lstN r rk n m, x ∈ idO n
 | 0, _ => ⟨List.nodup_nil, fun x hx => by cases hx⟩
 | m + 1, h => by
  obtain ⟨h1, h2⟩ := lstN_ok r rk n m (by omega)
  obtain ⟨i, h3, h4, h5⟩ := fr1_ok (r := r) (rk := rk) (out := lstN r rk n m) (n := n) (by rw [lstN_len]; omega)
  unfold lstN
  rw [h4]
  have hi : (i : Int) ∉ lstN r rk n m := by
   unfold frK at h5
   rw [Bool.and_eq_true] at h5
   exact memB_no.1 (by simpa using h5.1)
  refine ⟨List.nodup_append.2 ⟨h1, by simp, fun x hx y hy e => ?_⟩, fun x hx => ?_⟩
  ·rw [List.mem_singleton] at hy
   subst hy; subst e; exact hi hx
  ·rcases List.mem_append.1 hx with hx | hx
   ·exact h2 x hx
   ·rw [List.mem_singleton] at hx
    subst hx
    exact idO_mem.2 (by omega)
theorem leastL_perm (r o : List Int) : (leastL r o).Perm (idO o.length) := by
 obtain ⟨h1, h2⟩ := lstN_ok r (rkF o) o.length o.length (Nat.le_refl _)
 exact (perm_sub _ _ h1 h2 (by rw [idO_len, lstN_len])).symm
theorem leastL_len (r o : List Int) : (leastL r o).length = o.length := lstN_len ..
theorem frK_succ {r rk out : List Int} {i : Int} {m : Nat} : frK r rk out i (m + 1) = (frK r rk out i m && frC r rk out i m) := by
 unfold frK
 rw [List.range_succ, List.all_append, Bool.and_assoc]
 simp
theorem ct60 : CtOk Tryz.prog G 60 e60 := by
 intro args r h hp
 unfold e60 at h
 split at h <;> cases h
 rename_i a n _ k m _ r p _ o q _
 obtain ⟨⟨rfl, rfl, rfl⟩, rfl, ho, h1, h2⟩ := hp
 have key : SpecP Tryz.prog G 60 [conV a k r, immN .i64 o] (immL .i64 (leastL r o)) [] := by
  refine fnP_spec hcm hmx (T60ok o.length) ok60 rfl (ob_o60 a k r o) ?_
  dsimp -failIfUnchanged -proj -eta -iota -zeta only
  have hol := ho.1
  have hc := cok_self a k r
  have e8 : [rkO o 0, rkO o 1, rkO o 2, rkO o 3, rkO o 4, rkO o 5, rkO o 6, rkO o 7] = rkF o := rkL_eq o
  have hR := rkF8 o
  simp only [e8, inR_i64, and_true, true_and, leb_iff, leb_no, ltb_iff, ltb_no, ltn_iff, len'_iff, iI, size_ints, List.length_drop, List.length_append, List.length_cons, List.length_nil, List.getD_eq_getElem?_getD, List.getElem?_drop, Nat.add_zero, Int.toNat_natCast, beq_iff_eq, beq_eq_false_iff_ne, ne_eq, forall_const, true_imp_iff]
  refine ⟨ho, by omega, ⟨0, by omega, rfl⟩, ?_⟩
  rintro ⟨out⟩ ⟨m, hm, rfl⟩
  have hlen := lstN_len r (rkF o) o.length m
  simp only [hlen]
  refine ⟨fun hlt => ⟨⟨0, rfl, by omega, fun j hj => by omega⟩, ?_⟩, fun hge => ?_⟩
  rotate_left
  ·have : m = o.length := by omega
   subst this
   exact ⟨rfl, (leastL_len r o).symm, (leastL_len r o).symm⟩
  rintro ⟨i⟩ ⟨p, hi, hp, hf⟩
  simp only at hi ⊢
  subst hi
  refine ⟨fun hi => ⟨by omega, ⟨0, rfl, by omega, ?_⟩, ?_⟩, fun hi => ?_⟩
  ·unfold frK; simp
  ·rintro ⟨c, f⟩ ⟨t, hc1, ht, hf2⟩
   simp only at hc1 hf2 ⊢
   subst hc1
   simp only [Int.toNat_natCast]
   refine ⟨fun hk => ⟨fun h => ⟨fun hb => ?_, fun hb => ⟨fun hle => ?_, fun hle => ?_⟩⟩, fun h => ?_⟩, fun hk => ⟨fun h => ?_, fun h => ?_⟩⟩
   ·simp only [h, hb, Bool.not_true, Bool.not_false, true_and]
    refine ⟨by omega, by omega, ⟨t + 1, by omega, by omega, ?_⟩, by omega⟩
    rw [frK_succ, ← hf2, h]
    unfold frC; rw [hb]; rfl
   ·have e1 : leb ((rkF o)[p]?.getD 0) ((rkF o)[t]?.getD 0) = true := leb_iff.2 hle
    have hle' : (rkF o)[p]?.getD 0 ≤ (rkF o)[t]?.getD 0 := hle
    simp only [h, hb, e1, Bool.not_true, Bool.not_false, true_and]
    refine ⟨by omega, by omega, by omega, by omega, by omega, by omega, by omega, hle', by omega, ⟨t + 1, by omega, by omega, ?_⟩, by omega⟩
    rw [frK_succ, ← hf2, h]
    unfold frC
    rw [hb, leb_iff.2 hle]; rfl
   ·have hle' : (rkF o)[t]?.getD 0 < (rkF o)[p]?.getD 0 := hle
    have e1 : leb ((rkF o)[p]?.getD 0) ((rkF o)[t]?.getD 0) = false := leb_no.2 hle'
    simp only [h, hb, e1, Bool.not_true, Bool.not_false, true_and]
    refine ⟨by omega, by omega, by omega, by omega, by omega, by omega, by omega, ⟨hc, by omega, by omega, by omega, by omega, by omega⟩, by omega, ⟨t + 1, by omega, by omega, ?_⟩, by omega⟩
    rw [frK_succ, ← hf2, h]
    unfold frC
    rw [hb, leb_no.2 hle]; rfl
   ·simp only [h, Bool.not_true, Bool.not_false, true_and]
    refine ⟨by omega, ⟨t + 1, by omega, by omega, ?_⟩, by omega⟩
    rw [frK_succ, ← hf2, h]; rfl
   ·have : t = o.length := by omega
    subst this
    have e1 := fr1_of (r := r) (rk := rkF o) (out := lstN r (rkF o) o.length m) (n := o.length) (m := p) (by omega) (by rw [← hf2, h]) hf
    refine ⟨by omega, by omega, ⟨m + 1, by omega, ?_⟩, by omega⟩
    show _ = lstN r (rkF o) o.length m ++ [fr1 r (rkF o) o.length (lstN r (rkF o) o.length m)]
    rw [e1]
   ·have : t = o.length := by omega
    subst this
    refine ⟨by omega, ⟨p + 1, by omega, by omega, fun j hj => ?_⟩, by omega⟩
    by_cases hj' : j < p
    ·exact hf j hj'
    ·rw [show j = p by omega, ← hf2, h]
  ·obtain ⟨j, hj, hj2⟩ := frK_ex (r := r) (rk := rkF o) (out := lstN r (rkF o) o.length m) (n := o.length) (by rw [hlen]; omega)
   rw [hf j (by omega)] at hj2
   cases hj2
 have key2 : SpecP Tryz.prog G 60 (.agg [.imm (.ints .i64 a) a.length none, .imm (.ints .u8 k) k.length none, .imm (.ints .i64 r) r.length none] :: [.imm (.ints .i64 o) o.length none]) (immL .i64 (leastL r o)) [] := key
 exact con_caps (key2.args fun w F xs h => by
  cases h with
  | cons _ _ _ _ h1 h2 =>
   cases h2 with
   | cons _ _ _ _ h3 h4 => exact .cons _ _ _ _ h1 (.cons _ _ _ _ h3.caps h4))
end Go.Proofs.YthiammkiobbclaaGreatDoor.X
