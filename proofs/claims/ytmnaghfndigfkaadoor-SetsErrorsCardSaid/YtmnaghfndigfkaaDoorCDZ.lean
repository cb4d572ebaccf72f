/-
 The contracts of the merging loop, and of the functions above it.
-/
import Derived.Test.YtmnaghfndigfkaaDoorCCZ
set_option maxRecDepth 1000000
set_option linter.unusedVariables false
set_option linter.unusedSimpArgs false
namespace Go.Proofs.YtmnaghfndigfkaaDoor.X
open Go Go.Ab

theorem ordV_n {a b : List Cl} (h : a.length = 0) : ordV (flatK a) a.length (flatK b) b.length = 1 := by unfold ordV; rw [h]; rfl
theorem ordV_m {a b : List Cl} (h : ¬ a.length = 0) (h2 : b.length = 0) : ordV (flatK a) a.length (flatK b) b.length = -1 := by
 cases a with
 | nil => exact absurd rfl h
 | cons a r => unfold ordV; rw [h2]; rfl
theorem ordV_c {a b : List Cl} (h : ¬ a.length = 0) (h2 : ¬ b.length = 0) : cmpC (kX a 0, kY a 0, kQ a 0) (kX b 0, kY b 0, kQ b 0) = ordV (flatK a) a.length (flatK b) b.length := by
 cases a with
 | nil => exact absurd rfl h
 | cons a r =>
  cases b with
  | nil => exact absurd rfl h2
  | cons b s => unfold ordV; rw [unK_flat, unK_flat]; rfl
theorem k0 {l : List Cl} (h : 0 < l.length) : (flatK l)[0]? = some (.int .i64 (kX l 0)) ∧ (flatK l)[1]? = some (.int .i64 (kY l 0)) ∧ (flatK l)[2]? = some (.int .u8 (kQ l 0)) := by
 cases l with
 | nil => simp at h
 | cons c r => exact ⟨rfl, rfl, rfl⟩
theorem okQ_drop {l : List Cl} (h : okQ l) (n : Nat) : okQ (l.drop n) := fun x hx => h x (List.mem_of_mem_drop hx)
theorem okQ_0 {l : List Cl} (h : okQ l) (g : 0 < l.length) : 0 ≤ kQ l 0 ∧ kQ l 0 ≤ 255 := okQ_at h g
theorem mrg_len (f : Nat) : ∀ (n : Nat) (a b : List Cl), (mrgF f n a b).length ≤ a.length + b.length
 | 0, a, b => by simp [mrgF]
 | n + 1, [], [] => by simp [mrgF]
 | n + 1, [], b :: s => by
  have := mrg_len f n [] s
  have := addK_len (kpF f false true) [] b
  simp only [mrgF, List.length_append, List.length_cons, List.length_nil] at *; omega
 | n + 1, a :: r, [] => by
  have := mrg_len f n r []
  have := addK_len (kpF f true false) [] a
  simp only [mrgF, List.length_append, List.length_cons, List.length_nil] at *; omega
 | n + 1, a :: r, b :: s => by
  have h1 := mrg_len f n r (b :: s)
  have h2 := mrg_len f n (a :: r) s
  have h3 := mrg_len f n r s
  have h4 := addK_len (kpF f true false) [] a
  have h5 := addK_len (kpF f false true) [] b
  have h6 := addK_len (kpF f true true) [] a
  simp only [mrgF]
  cases ltC a b <;> cases ltC b a <;> simp only [cond_true, cond_false, List.length_append, List.length_cons, List.length_nil] at * <;> omega
theorem okS_len {l : List Cl} (h : okS l) : l.length ≤ 1024 := by
 obtain ⟨_, h⟩ := h
 unfold chkI at h
 by_cases g : 1024 < l.length
 ·rw [decide_eq_true g] at h; exact absurd h (show ¬ ((3 : Int) = 0) by decide)
 ·omega
theorem sp164_89 (A B : List Cl) (hA : okQ A) (hB : okQ B) (ha : A.length < 10000) (hb : B.length < 10000) : SpecD Tryd.prog G (.fn 164 [] []) [.yld 9002, .ptr 24704 0, .ptr 24705 0] (H88e 89 A B) (.tup []) [(24705, .blk (bxB [] 0)), (24704, .blk (bxB [] 0)), (9001, row88 (mrg 89 A B)), (320, bxO (.full 9001 (mrg 89 A B).length))] [] := by
 refine fnD_spec hcm hmx TY88ok_89 ok164 rfl (ob_d_164_89 A B) ?_
 simp only [ltb_iff, ltb_no, leb_iff, leb_no, ltn_iff, len'_iff, inR_i64, and_true, true_and, size_vals, iI, beq_iff_eq, beq_eq_false_iff_ne, ne_eq]
 refine ⟨⟨A, B, [], rfl, rfl, rfl, rfl, rfl, rfl, hA, hB, by simp, by simp⟩, ?_⟩
 rintro ⟨a', b', o', n, m, k⟩ ⟨a, b, o, rfl, rfl, rfl, rfl, rfl, rfl, qa, qb, hl, he⟩
 simp only [unK_flat, flatK_drop, flatK_len, List.drop_zero, true_and]
 refine ⟨by omega, fun hn => ⟨⟨fun h => (ordV_n (by omega)).symm, fun h => ⟨fun h2 => (ordV_m (by omega) (by omega)).symm, fun h2 => ?_⟩⟩, ?_⟩, fun hn => ?_⟩
 ·obtain ⟨x1, x2, x3⟩ := k0 (l := a) (by omega)
  obtain ⟨y1, y2, y3⟩ := k0 (l := b) (by omega)
  obtain ⟨q1, q2⟩ := okQ_0 qa (by omega)
  obtain ⟨q3, q4⟩ := okQ_0 qb (by omega)
  exact ⟨by omega, by omega, x1, x2, x3, by omega, by omega, y1, y2, y3, ⟨q1, q2, q3, q4⟩, ordV_c (by omega) (by omega)⟩
 ·rintro ⟨v⟩ hv
  simp only at hv ⊢
  subst hv
  have ho : ordV (flatK a) a.length (flatK b) b.length = ordL a b := rfl
  rw [ho]
  refine ⟨fun h0 => ?_, fun h0 => ⟨fun h1 => ?_, fun h1 => by omega⟩⟩
  ·have hbl : 0 < b.length := by
    by_cases h1 : ordL a b ≤ 0
    ·exact (mrg_step3 89 h1 h0).2.1
    ·exact (mrg_step1 89 h0 h1 (by omega)).1
   obtain ⟨y1, y2, y3⟩ := k0 hbl
   refine ⟨by omega, by omega, y1, y2, y3, by omega, fun h1 => ?_, fun h1 => ?_⟩
   ·obtain ⟨g1, g2, e⟩ := mrg_step3 89 h1 h0
    obtain ⟨x1, x2, x3⟩ := k0 g1
    refine ⟨by omega, by omega, x1, x2, x3, by omega, by omega, ⟨a.drop 1, b.drop 1, addK (kpF 89 (leb (ordL a b) 0) (leb 0 (ordL a b))) o (kX a 0, kY a 0, kQ a 0), rfl, by simp, rfl, by simp, rfl, rfl, okQ_drop qa 1, okQ_drop qb 1, ?_, ?_⟩, by omega⟩
    ·have := addK_len (kpF 89 (leb (ordL a b) 0) (leb 0 (ordL a b))) o (kX a 0, kY a 0, kQ a 0)
     simp only [List.length_drop]; omega
    ·rw [leb_iff.2 h1, leb_iff.2 h0, addK_app, List.append_assoc, ← e]; exact he
   ·obtain ⟨g2, e⟩ := mrg_step1 89 h0 (by omega) (by omega)
    refine ⟨by omega, ⟨a, b.drop 1, addK (kpF 89 (leb (ordL a b) 0) (leb 0 (ordL a b))) o (kX b 0, kY b 0, kQ b 0), rfl, rfl, rfl, by simp, rfl, rfl, qa, okQ_drop qb 1, ?_, ?_⟩, by omega⟩
    ·have := addK_len (kpF 89 (leb (ordL a b) 0) (leb 0 (ordL a b))) o (kX b 0, kY b 0, kQ b 0)
     simp only [List.length_drop]; omega
    ·rw [leb_no.2 h1, leb_iff.2 h0, addK_app, List.append_assoc, ← e]; exact he
  ·obtain ⟨g1, e⟩ := mrg_step2 89 h1 (by omega)
   obtain ⟨x1, x2, x3⟩ := k0 g1
   refine ⟨by omega, by omega, x1, x2, x3, by omega, by omega, ⟨a.drop 1, b, addK (kpF 89 (leb (ordL a b) 0) (leb 0 (ordL a b))) o (kX a 0, kY a 0, kQ a 0), rfl, by simp, rfl, rfl, rfl, rfl, okQ_drop qa 1, qb, ?_, ?_⟩, by omega⟩
   ·have := addK_len (kpF 89 (leb (ordL a b) 0) (leb 0 (ordL a b))) o (kX a 0, kY a 0, kQ a 0)
    simp only [List.length_drop]; omega
   ·rw [leb_iff.2 h1, leb_no.2 (by omega), addK_app, List.append_assoc, ← e]; exact he
 ·have e1 : a = [] := List.eq_nil_of_length_eq_zero (by omega)
  have e2 : b = [] := List.eq_nil_of_length_eq_zero (by omega)
  subst e1 e2
  rw [mrg_nn, List.append_nil] at he
  subst he
  exact ⟨rfl, rfl, rfl, rfl, rfl, rfl, rfl⟩
theorem ch164ok_89 (A B : List Cl) : ChOk Tryd.prog G (ch164 89 A B) := by
 intro h cv args r hr hp
 unfold ch164 at hr
 split at hr
 ·rw [cond_eq_ite] at hr
  split at hr
  ·rename_i hid
   simp only [Bool.and_eq_true] at hid
   cases hr
   obtain ⟨rfl, h1, h2, h3, h4⟩ := hp
   have e1 := Nat.eq_of_beq_eq_true hid.1
   have e2 := Nat.eq_of_beq_eq_true hid.2.1
   have e3 := Nat.eq_of_beq_eq_true hid.2.2.1
   have e4 := Nat.eq_of_beq_eq_true hid.2.2.2
   subst e1 e2 e3 e4
   exact sp164_89 A B h1 h2 h3 h4
  ·cases hr
 ·cases hr
theorem TC7ok_89 (A B : List Cl) : TabOk Tryd.prog G (TC7 89 A B) := tabL_ok (ch164ok_89 A B) ⟨ct130, ct131, ct99, trivial⟩
theorem sp88_89 (a b : List Cl) (ha : okS a) (hb : okS b) (hm : (mrg 89 a b).length ≤ 1024) : SpecP Tryd.prog G 88 [cls a, cls b, .fn 89 [] []] (.tup [.imm (.vals (flatK (mrg 89 a b))) (mrg 89 a b).length (some (mrg 89 a b).length), .int .i64 0]) [] := by
 have la := okS_len ha
 have lb := okS_len hb
 refine fnP_spec hcm hmx (TC7ok_89 a b) ok88 rfl (ob_o88_89 a b) ?_
 simp only [unK_flat, ltb_iff, ltb_no, and_true, true_and, bne_iff_ne, ne_eq, bne_eq_false_iff_eq]
 have h0 : bothI a b = 0 := by unfold bothI; rw [ha.2]; exact hb.2
 have ka : okL (flatK a) a.length := okL_flat (by omega)
 have kb : okL (flatK b) b.length := okL_flat (by omega)
 exact ⟨⟨⟨ka, ha.1⟩, kb, hb.1⟩, fun h => absurd h0 h, fun _ => ⟨⟨ka, kb⟩, ⟨ha.1, hb.1, by omega, by omega⟩, fun h => by omega, fun _ => okL_flat (by omega)⟩⟩
theorem sp164_90 (A B : List Cl) (hA : okQ A) (hB : okQ B) (ha : A.length < 10000) (hb : B.length < 10000) : SpecD Tryd.prog G (.fn 164 [] []) [.yld 9002, .ptr 24704 0, .ptr 24705 0] (H88e 90 A B) (.tup []) [(24705, .blk (bxB [] 0)), (24704, .blk (bxB [] 0)), (9001, row88 (mrg 90 A B)), (320, bxO (.full 9001 (mrg 90 A B).length))] [] := by
 refine fnD_spec hcm hmx TY88ok_90 ok164 rfl (ob_d_164_90 A B) ?_
 simp only [ltb_iff, ltb_no, leb_iff, leb_no, ltn_iff, len'_iff, inR_i64, and_true, true_and, size_vals, iI, beq_iff_eq, beq_eq_false_iff_ne, ne_eq]
 refine ⟨⟨A, B, [], rfl, rfl, rfl, rfl, rfl, rfl, hA, hB, by simp, by simp⟩, ?_⟩
 rintro ⟨a', b', o', n, m, k⟩ ⟨a, b, o, rfl, rfl, rfl, rfl, rfl, rfl, qa, qb, hl, he⟩
 simp only [unK_flat, flatK_drop, flatK_len, List.drop_zero, true_and]
 refine ⟨by omega, fun hn => ⟨⟨fun h => (ordV_n (by omega)).symm, fun h => ⟨fun h2 => (ordV_m (by omega) (by omega)).symm, fun h2 => ?_⟩⟩, ?_⟩, fun hn => ?_⟩
 ·obtain ⟨x1, x2, x3⟩ := k0 (l := a) (by omega)
  obtain ⟨y1, y2, y3⟩ := k0 (l := b) (by omega)
  obtain ⟨q1, q2⟩ := okQ_0 qa (by omega)
  obtain ⟨q3, q4⟩ := okQ_0 qb (by omega)
  exact ⟨by omega, by omega, x1, x2, x3, by omega, by omega, y1, y2, y3, ⟨q1, q2, q3, q4⟩, ordV_c (by omega) (by omega)⟩
 ·rintro ⟨v⟩ hv
  simp only at hv ⊢
  subst hv
  have ho : ordV (flatK a) a.length (flatK b) b.length = ordL a b := rfl
  rw [ho]
  refine ⟨fun h0 => ?_, fun h0 => ⟨fun h1 => ?_, fun h1 => by omega⟩⟩
  ·have hbl : 0 < b.length := by
    by_cases h1 : ordL a b ≤ 0
    ·exact (mrg_step3 90 h1 h0).2.1
    ·exact (mrg_step1 90 h0 h1 (by omega)).1
   obtain ⟨y1, y2, y3⟩ := k0 hbl
   refine ⟨by omega, by omega, y1, y2, y3, by omega, fun h1 => ?_, fun h1 => ?_⟩
   ·obtain ⟨g1, g2, e⟩ := mrg_step3 90 h1 h0
    obtain ⟨x1, x2, x3⟩ := k0 g1
    refine ⟨by omega, by omega, x1, x2, x3, by omega, by omega, ⟨a.drop 1, b.drop 1, addK (kpF 90 (leb (ordL a b) 0) (leb 0 (ordL a b))) o (kX a 0, kY a 0, kQ a 0), rfl, by simp, rfl, by simp, rfl, rfl, okQ_drop qa 1, okQ_drop qb 1, ?_, ?_⟩, by omega⟩
    ·have := addK_len (kpF 90 (leb (ordL a b) 0) (leb 0 (ordL a b))) o (kX a 0, kY a 0, kQ a 0)
     simp only [List.length_drop]; omega
    ·rw [leb_iff.2 h1, leb_iff.2 h0, addK_app, List.append_assoc, ← e]; exact he
   ·obtain ⟨g2, e⟩ := mrg_step1 90 h0 (by omega) (by omega)
    refine ⟨by omega, ⟨a, b.drop 1, addK (kpF 90 (leb (ordL a b) 0) (leb 0 (ordL a b))) o (kX b 0, kY b 0, kQ b 0), rfl, rfl, rfl, by simp, rfl, rfl, qa, okQ_drop qb 1, ?_, ?_⟩, by omega⟩
    ·have := addK_len (kpF 90 (leb (ordL a b) 0) (leb 0 (ordL a b))) o (kX b 0, kY b 0, kQ b 0)
     simp only [List.length_drop]; omega
    ·rw [leb_no.2 h1, leb_iff.2 h0, addK_app, List.append_assoc, ← e]; exact he
  ·obtain ⟨g1, e⟩ := mrg_step2 90 h1 (by omega)
   obtain ⟨x1, x2, x3⟩ := k0 g1
   refine ⟨by omega, by omega, x1, x2, x3, by omega, by omega, ⟨a.drop 1, b, addK (kpF 90 (leb (ordL a b) 0) (leb 0 (ordL a b))) o (kX a 0, kY a 0, kQ a 0), rfl, by simp, rfl, rfl, rfl, rfl, okQ_drop qa 1, qb, ?_, ?_⟩, by omega⟩
   ·have := addK_len (kpF 90 (leb (ordL a b) 0) (leb 0 (ordL a b))) o (kX a 0, kY a 0, kQ a 0)
    simp only [List.length_drop]; omega
   ·rw [leb_iff.2 h1, leb_no.2 (by omega), addK_app, List.append_assoc, ← e]; exact he
 ·have e1 : a = [] := List.eq_nil_of_length_eq_zero (by omega)
  have e2 : b = [] := List.eq_nil_of_length_eq_zero (by omega)
  subst e1 e2
  rw [mrg_nn, List.append_nil] at he
  subst he
  exact ⟨rfl, rfl, rfl, rfl, rfl, rfl, rfl⟩
theorem ch164ok_90 (A B : List Cl) : ChOk Tryd.prog G (ch164 90 A B) := by
 intro h cv args r hr hp
 unfold ch164 at hr
 split at hr
 ·rw [cond_eq_ite] at hr
  split at hr
  ·rename_i hid
   simp only [Bool.and_eq_true] at hid
   cases hr
   obtain ⟨rfl, h1, h2, h3, h4⟩ := hp
   have e1 := Nat.eq_of_beq_eq_true hid.1
   have e2 := Nat.eq_of_beq_eq_true hid.2.1
   have e3 := Nat.eq_of_beq_eq_true hid.2.2.1
   have e4 := Nat.eq_of_beq_eq_true hid.2.2.2
   subst e1 e2 e3 e4
   exact sp164_90 A B h1 h2 h3 h4
  ·cases hr
 ·cases hr
theorem TC7ok_90 (A B : List Cl) : TabOk Tryd.prog G (TC7 90 A B) := tabL_ok (ch164ok_90 A B) ⟨ct130, ct131, ct99, trivial⟩
theorem sp88_90 (a b : List Cl) (ha : okS a) (hb : okS b) (hm : (mrg 90 a b).length ≤ 1024) : SpecP Tryd.prog G 88 [cls a, cls b, .fn 90 [] []] (.tup [.imm (.vals (flatK (mrg 90 a b))) (mrg 90 a b).length (some (mrg 90 a b).length), .int .i64 0]) [] := by
 have la := okS_len ha
 have lb := okS_len hb
 refine fnP_spec hcm hmx (TC7ok_90 a b) ok88 rfl (ob_o88_90 a b) ?_
 simp only [unK_flat, ltb_iff, ltb_no, and_true, true_and, bne_iff_ne, ne_eq, bne_eq_false_iff_eq]
 have h0 : bothI a b = 0 := by unfold bothI; rw [ha.2]; exact hb.2
 have ka : okL (flatK a) a.length := okL_flat (by omega)
 have kb : okL (flatK b) b.length := okL_flat (by omega)
 exact ⟨⟨⟨ka, ha.1⟩, kb, hb.1⟩, fun h => absurd h0 h, fun _ => ⟨⟨ka, kb⟩, ⟨ha.1, hb.1, by omega, by omega⟩, fun h => by omega, fun _ => okL_flat (by omega)⟩⟩
theorem sp164_91 (A B : List Cl) (hA : okQ A) (hB : okQ B) (ha : A.length < 10000) (hb : B.length < 10000) : SpecD Tryd.prog G (.fn 164 [] []) [.yld 9002, .ptr 24704 0, .ptr 24705 0] (H88e 91 A B) (.tup []) [(24705, .blk (bxB [] 0)), (24704, .blk (bxB [] 0)), (9001, row88 (mrg 91 A B)), (320, bxO (.full 9001 (mrg 91 A B).length))] [] := by
 refine fnD_spec hcm hmx TY88ok_91 ok164 rfl (ob_d_164_91 A B) ?_
 simp only [ltb_iff, ltb_no, leb_iff, leb_no, ltn_iff, len'_iff, inR_i64, and_true, true_and, size_vals, iI, beq_iff_eq, beq_eq_false_iff_ne, ne_eq]
 refine ⟨⟨A, B, [], rfl, rfl, rfl, rfl, rfl, rfl, hA, hB, by simp, by simp⟩, ?_⟩
 rintro ⟨a', b', o', n, m, k⟩ ⟨a, b, o, rfl, rfl, rfl, rfl, rfl, rfl, qa, qb, hl, he⟩
 simp only [unK_flat, flatK_drop, flatK_len, List.drop_zero, true_and]
 refine ⟨by omega, fun hn => ⟨⟨fun h => (ordV_n (by omega)).symm, fun h => ⟨fun h2 => (ordV_m (by omega) (by omega)).symm, fun h2 => ?_⟩⟩, ?_⟩, fun hn => ?_⟩
 ·obtain ⟨x1, x2, x3⟩ := k0 (l := a) (by omega)
  obtain ⟨y1, y2, y3⟩ := k0 (l := b) (by omega)
  obtain ⟨q1, q2⟩ := okQ_0 qa (by omega)
  obtain ⟨q3, q4⟩ := okQ_0 qb (by omega)
  exact ⟨by omega, by omega, x1, x2, x3, by omega, by omega, y1, y2, y3, ⟨q1, q2, q3, q4⟩, ordV_c (by omega) (by omega)⟩
 ·rintro ⟨v⟩ hv
  simp only at hv ⊢
  subst hv
  have ho : ordV (flatK a) a.length (flatK b) b.length = ordL a b := rfl
  rw [ho]
  refine ⟨fun h0 => ?_, fun h0 => ⟨fun h1 => ?_, fun h1 => by omega⟩⟩
  ·have hbl : 0 < b.length := by
    by_cases h1 : ordL a b ≤ 0
    ·exact (mrg_step3 91 h1 h0).2.1
    ·exact (mrg_step1 91 h0 h1 (by omega)).1
   obtain ⟨y1, y2, y3⟩ := k0 hbl
   refine ⟨by omega, by omega, y1, y2, y3, by omega, fun h1 => ?_, fun h1 => ?_⟩
   ·obtain ⟨g1, g2, e⟩ := mrg_step3 91 h1 h0
    obtain ⟨x1, x2, x3⟩ := k0 g1
    refine ⟨by omega, by omega, x1, x2, x3, by omega, by omega, ⟨a.drop 1, b.drop 1, addK (kpF 91 (leb (ordL a b) 0) (leb 0 (ordL a b))) o (kX a 0, kY a 0, kQ a 0), rfl, by simp, rfl, by simp, rfl, rfl, okQ_drop qa 1, okQ_drop qb 1, ?_, ?_⟩, by omega⟩
    ·have := addK_len (kpF 91 (leb (ordL a b) 0) (leb 0 (ordL a b))) o (kX a 0, kY a 0, kQ a 0)
     simp only [List.length_drop]; omega
    ·rw [leb_iff.2 h1, leb_iff.2 h0, addK_app, List.append_assoc, ← e]; exact he
   ·obtain ⟨g2, e⟩ := mrg_step1 91 h0 (by omega) (by omega)
    refine ⟨by omega, ⟨a, b.drop 1, addK (kpF 91 (leb (ordL a b) 0) (leb 0 (ordL a b))) o (kX b 0, kY b 0, kQ b 0), rfl, rfl, rfl, by simp, rfl, rfl, qa, okQ_drop qb 1, ?_, ?_⟩, by omega⟩
    ·have := addK_len (kpF 91 (leb (ordL a b) 0) (leb 0 (ordL a b))) o (kX b 0, kY b 0, kQ b 0)
     simp only [List.length_drop]; omega
    ·rw [leb_no.2 h1, leb_iff.2 h0, addK_app, List.append_assoc, ← e]; exact he
  ·obtain ⟨g1, e⟩ := mrg_step2 91 h1 (by omega)
   obtain ⟨x1, x2, x3⟩ := k0 g1
   refine ⟨by omega, by omega, x1, x2, x3, by omega, by omega, ⟨a.drop 1, b, addK (kpF 91 (leb (ordL a b) 0) (leb 0 (ordL a b))) o (kX a 0, kY a 0, kQ a 0), rfl, by simp, rfl, rfl, rfl, rfl, okQ_drop qa 1, qb, ?_, ?_⟩, by omega⟩
   ·have := addK_len (kpF 91 (leb (ordL a b) 0) (leb 0 (ordL a b))) o (kX a 0, kY a 0, kQ a 0)
    simp only [List.length_drop]; omega
   ·rw [leb_iff.2 h1, leb_no.2 (by omega), addK_app, List.append_assoc, ← e]; exact he
 ·have e1 : a = [] := List.eq_nil_of_length_eq_zero (by omega)
  have e2 : b = [] := List.eq_nil_of_length_eq_zero (by omega)
  subst e1 e2
  rw [mrg_nn, List.append_nil] at he
  subst he
  exact ⟨rfl, rfl, rfl, rfl, rfl, rfl, rfl⟩
theorem ch164ok_91 (A B : List Cl) : ChOk Tryd.prog G (ch164 91 A B) := by
 intro h cv args r hr hp
 unfold ch164 at hr
 split at hr
 ·rw [cond_eq_ite] at hr
  split at hr
  ·rename_i hid
   simp only [Bool.and_eq_true] at hid
   cases hr
   obtain ⟨rfl, h1, h2, h3, h4⟩ := hp
   have e1 := Nat.eq_of_beq_eq_true hid.1
   have e2 := Nat.eq_of_beq_eq_true hid.2.1
   have e3 := Nat.eq_of_beq_eq_true hid.2.2.1
   have e4 := Nat.eq_of_beq_eq_true hid.2.2.2
   subst e1 e2 e3 e4
   exact sp164_91 A B h1 h2 h3 h4
  ·cases hr
 ·cases hr
theorem TC7ok_91 (A B : List Cl) : TabOk Tryd.prog G (TC7 91 A B) := tabL_ok (ch164ok_91 A B) ⟨ct130, ct131, ct99, trivial⟩
theorem sp88_91 (a b : List Cl) (ha : okS a) (hb : okS b) (hm : (mrg 91 a b).length ≤ 1024) : SpecP Tryd.prog G 88 [cls a, cls b, .fn 91 [] []] (.tup [.imm (.vals (flatK (mrg 91 a b))) (mrg 91 a b).length (some (mrg 91 a b).length), .int .i64 0]) [] := by
 have la := okS_len ha
 have lb := okS_len hb
 refine fnP_spec hcm hmx (TC7ok_91 a b) ok88 rfl (ob_o88_91 a b) ?_
 simp only [unK_flat, ltb_iff, ltb_no, and_true, true_and, bne_iff_ne, ne_eq, bne_eq_false_iff_eq]
 have h0 : bothI a b = 0 := by unfold bothI; rw [ha.2]; exact hb.2
 have ka : okL (flatK a) a.length := okL_flat (by omega)
 have kb : okL (flatK b) b.length := okL_flat (by omega)
 exact ⟨⟨⟨ka, ha.1⟩, kb, hb.1⟩, fun h => absurd h0 h, fun _ => ⟨⟨ka, kb⟩, ⟨ha.1, hb.1, by omega, by omega⟩, fun h => by omega, fun _ => okL_flat (by omega)⟩⟩
theorem caps3 {f : Nat} {a b c v : AV} {bs : List Blk} (h : SpecP Tryd.prog G f [capsV a, capsV b, c] v bs) : SpecP Tryd.prog G f [a, b, c] v bs := h.args fun w F xs h => by
 cases h with
 | cons _ _ _ _ h1 h2 =>
  cases h2 with
  | cons _ _ _ _ h3 h4 => exact .cons _ _ _ _ h1.caps (.cons _ _ _ _ h3.caps h4)
end Go.Proofs.YtmnaghfndigfkaaDoor.X
