/-
 The law on errors.
-/
import Derived.Test.YtmnaghfndigfkaaDoorOOZ
import Derived.Test.YtmnaghfndigfkaaDoorOPZ
import Derived.Test.YtmnaghfndigfkaaDoorCPZ
import Derived.Test.YtmnaghfndigfkaaDoorCLZ
import Derived.Test.YtmnaghfndigfkaaDoorCMZ
set_option maxRecDepth 1000000
set_option linter.unusedVariables false
set_option linter.unusedSimpArgs false
namespace Go.Proofs.YtmnaghfndigfkaaDoor.X
open Go Go.Ab

theorem TO52ok : TabOk Tryd.prog G TO52 := tabL_ok noCh_ok ⟨ct41, ct103, trivial⟩
theorem bI0 (b : Bool) : (bI b 1 0 == 0) = !b := by cases b <;> rfl
theorem ct52 : CtOk Tryd.prog G 52 e52 := by
 intro args r h hp
 unfold e52 at h
 split at h <;> cases h
 obtain ⟨h1, h2, hz⟩ := hp
 generalize unK _ = l at *
 subst h1 h2
 refine (fnP_spec hcm hmx TO52ok ok52 rfl (ob_o52 l) ?_ : SpecP Tryd.prog G 52 [cls l] _ []).caps
 simp only [ltb_iff, ltb_no, leb_iff, leb_no, len'_iff, ltn_iff, inR_i64, and_true, true_and, size_vals, iI, flatK_len, bI0, Bool.not_eq_true', Bool.not_eq_false']
 refine ⟨fun h => ?_, fun h0 => ⟨⟨0, rfl, by omega, rfl⟩, ?_⟩⟩
 ·unfold chkI; rw [decide_eq_true (by omega)]; rfl
 rintro ⟨i⟩ ⟨n, hi, hn, he⟩
 simp only at hi he ⊢
 subst hi
 simp only [Int.toNat_natCast]
 refine ⟨fun hlt => ?_, fun hge => ⟨⟨0, by omega, by omega, rfl⟩, ?_⟩⟩
 ·have g1 : n < l.length := by omega
  obtain ⟨a0, a1, a2⟩ := kget g1
  rw [drop_at g1] at he
  simp only [badL] at he
  refine ⟨by omega, by omega, by omega, a0, a1, a2, fun hb => ?_, fun hb => ⟨by omega, ⟨n + 1, by omega, by omega, ?_⟩, by omega⟩⟩
  ·rw [hb] at he
   unfold chkI; rw [decide_eq_false (by omega), ← he]; rfl
  ·rw [hb] at he; exact he
 have hbad : badL l = false := by
  rw [← he, List.drop_eq_nil_of_le (by omega)]; rfl
 have hc : chkI l = bI (srtB l) 0 6 := by unfold chkI; rw [decide_eq_false (by omega), hbad]; rfl
 rintro ⟨i⟩ ⟨n, hi, hn, he⟩
 simp only at hi he ⊢
 subst hi
 rw [show (((n + 1 : Nat) : Int) - 1) = (n : Int) by omega]
 simp only [Int.toNat_natCast]
 refine ⟨fun hlt => ?_, fun hge => ?_⟩
 ·have g1 : n < l.length := by omega
  have g2 : n + 1 < l.length := by omega
  obtain ⟨a0, a1, a2⟩ := kget g1
  obtain ⟨b0, b1, b2⟩ := kget g2
  rw [drop_at g1, drop_at g2] at he
  simp only [srtB] at he
  rw [← drop_at g2] at he
  refine ⟨by omega, by omega, by omega, by omega, a0, a1, a2, by omega, by omega, by omega, b0, b1, b2, fun hq => ?_, fun hq => ⟨by omega, ⟨n + 1, by omega, by omega, ?_⟩, by omega⟩⟩
  ·rw [hq] at he
   rw [hc, ← he]; rfl
  ·rw [hq] at he
   exact he
 ·have : srtB (l.drop n) = true := by
   rcases Nat.lt_or_ge n l.length with g | g
   ·rw [drop_at g, List.drop_eq_nil_of_le (by omega)]; rfl
   ·rw [List.drop_eq_nil_of_le (by omega)]; rfl
  rw [this] at he
  rw [hc, ← he]; rfl
theorem TO88ok : TabOk Tryd.prog G TO88 := tabL_ok noCh_ok ⟨ct130, trivial⟩
theorem ct88e : CtOk Tryd.prog G 88 e88e := by
 intro args r h hp
 unfold e88e at h
 split at h <;> cases h
 rename_i a n _ b m _ f
 obtain ⟨⟨⟨h1, h2, hz⟩, ha⟩, ⟨⟨h3, h4, hy⟩, hb⟩, hne⟩ := hp
 generalize unK a = a at *
 generalize unK b = b at *
 subst h1 h2 h3 h4
 refine caps3 (fnP_spec hcm hmx TO88ok ok88 rfl (ob_o88e a b f) ?_ : SpecP Tryd.prog G 88 [cls a, cls b, _] _ [])
 simp only [unK_flat, and_true]
 exact ⟨⟨⟨okL_flat hz, ha⟩, okL_flat hy, hb⟩, by simpa using hne⟩
theorem TO32ok : TabOk Tryd.prog G TO32 := tabL_ok noCh_ok ⟨ct88e, trivial⟩
theorem both0 {a b : List Cl} (h : bothI a b = 0) : chkI a = 0 ∧ chkI b = 0 := by
 unfold bothI at h
 by_cases e : chkI a = 0
 ·rw [e] at h; exact ⟨e, h⟩
 ·rw [show (chkI a == 0) = false by simpa using e] at h
  exact absurd h e
theorem mgX0 {f : Nat} {a b : List Cl} (h : bothI a b = 0) : mgX f a b = mrg f a b := by unfold mgX; rw [h]; rfl
theorem mgXn {f : Nat} {a b : List Cl} (h : bothI a b ≠ 0) : mgX f a b = [] := by
 unfold mgX
 rw [show (bothI a b == 0) = false by simpa using h]; rfl
theorem ct32T : CtOk Tryd.prog G 32 (eMgT 89) := by
 intro args r h hp
 unfold eMgT at h
 split at h <;> cases h
 rename_i a n c1 b m c2
 obtain ⟨⟨hA, ha⟩, ⟨hB, hb⟩, hlen⟩ := hp
 by_cases e : bothI (unK a) (unK b) = 0
 ·obtain ⟨e1, e2⟩ := both0 e
  have := ct32 [.imm (.vals a) n c1, .imm (.vals b) m c2] _ rfl (by exact ⟨hA, hB, ⟨ha, e1⟩, ⟨hb, e2⟩, hlen e⟩)
  show SpecP Tryd.prog G 32 _ (.tup [.imm (.vals (flatK (mgX 89 (unK a) (unK b)))) (mgX 89 (unK a) (unK b)).length (some (mgX 89 (unK a) (unK b)).length), .int .i64 (bothI (unK a) (unK b))]) []
  rw [mgX0 e, e]
  exact this
 ·show SpecP Tryd.prog G 32 _ (.tup [.imm (.vals (flatK (mgX 89 (unK a) (unK b)))) (mgX 89 (unK a) (unK b)).length (some (mgX 89 (unK a) (unK b)).length), .int .i64 (bothI (unK a) (unK b))]) []
  rw [mgXn e]
  obtain ⟨h1, h2, hz⟩ := hA
  obtain ⟨h3, h4, hy⟩ := hB
  generalize unK a = a at *
  generalize unK b = b at *
  subst h1 h2 h3 h4
  refine caps2 (SpecP.caps (fnP_spec hcm hmx TO32ok ok32 rfl (ob_o32e a b) ?_ : SpecP Tryd.prog G 32 [cls a, cls b] _ []))
  simp only [unK_flat, and_true]
  exact ⟨⟨okL_flat hz, ha⟩, ⟨okL_flat hy, hb⟩, e⟩
theorem ct33T : CtOk Tryd.prog G 33 (eMgT 90) := by
 intro args r h hp
 unfold eMgT at h
 split at h <;> cases h
 rename_i a n c1 b m c2
 obtain ⟨⟨hA, ha⟩, ⟨hB, hb⟩, hlen⟩ := hp
 by_cases e : bothI (unK a) (unK b) = 0
 ·obtain ⟨e1, e2⟩ := both0 e
  have := ct33 [.imm (.vals a) n c1, .imm (.vals b) m c2] _ rfl (by exact ⟨hA, hB, ⟨ha, e1⟩, ⟨hb, e2⟩, hlen e⟩)
  show SpecP Tryd.prog G 33 _ (.tup [.imm (.vals (flatK (mgX 90 (unK a) (unK b)))) (mgX 90 (unK a) (unK b)).length (some (mgX 90 (unK a) (unK b)).length), .int .i64 (bothI (unK a) (unK b))]) []
  rw [mgX0 e, e]
  exact this
 ·show SpecP Tryd.prog G 33 _ (.tup [.imm (.vals (flatK (mgX 90 (unK a) (unK b)))) (mgX 90 (unK a) (unK b)).length (some (mgX 90 (unK a) (unK b)).length), .int .i64 (bothI (unK a) (unK b))]) []
  rw [mgXn e]
  obtain ⟨h1, h2, hz⟩ := hA
  obtain ⟨h3, h4, hy⟩ := hB
  generalize unK a = a at *
  generalize unK b = b at *
  subst h1 h2 h3 h4
  refine caps2 (SpecP.caps (fnP_spec hcm hmx TO32ok ok33 rfl (ob_o33e a b) ?_ : SpecP Tryd.prog G 33 [cls a, cls b] _ []))
  simp only [unK_flat, and_true]
  exact ⟨⟨okL_flat hz, ha⟩, ⟨okL_flat hy, hb⟩, e⟩
theorem ct34T : CtOk Tryd.prog G 34 (eMgT 91) := by
 intro args r h hp
 unfold eMgT at h
 split at h <;> cases h
 rename_i a n c1 b m c2
 obtain ⟨⟨hA, ha⟩, ⟨hB, hb⟩, hlen⟩ := hp
 by_cases e : bothI (unK a) (unK b) = 0
 ·obtain ⟨e1, e2⟩ := both0 e
  have := ct34 [.imm (.vals a) n c1, .imm (.vals b) m c2] _ rfl (by exact ⟨hA, hB, ⟨ha, e1⟩, ⟨hb, e2⟩, hlen e⟩)
  show SpecP Tryd.prog G 34 _ (.tup [.imm (.vals (flatK (mgX 91 (unK a) (unK b)))) (mgX 91 (unK a) (unK b)).length (some (mgX 91 (unK a) (unK b)).length), .int .i64 (bothI (unK a) (unK b))]) []
  rw [mgX0 e, e]
  exact this
 ·show SpecP Tryd.prog G 34 _ (.tup [.imm (.vals (flatK (mgX 91 (unK a) (unK b)))) (mgX 91 (unK a) (unK b)).length (some (mgX 91 (unK a) (unK b)).length), .int .i64 (bothI (unK a) (unK b))]) []
  rw [mgXn e]
  obtain ⟨h1, h2, hz⟩ := hA
  obtain ⟨h3, h4, hy⟩ := hB
  generalize unK a = a at *
  generalize unK b = b at *
  subst h1 h2 h3 h4
  refine caps2 (SpecP.caps (fnP_spec hcm hmx TO32ok ok34 rfl (ob_o34e a b) ?_ : SpecP Tryd.prog G 34 [cls a, cls b] _ []))
  simp only [unK_flat, and_true]
  exact ⟨⟨okL_flat hz, ha⟩, ⟨okL_flat hy, hb⟩, e⟩
theorem ct53 : CtOk Tryd.prog G 53 e53 := by
 intro args r h hp
 unfold e53 at h
 split at h <;> cases h
 exact fnP_spec hcm hmx T0ok ok53 rfl ob_o53 (by simp)
theorem TO12ok : TabOk Tryd.prog G TO12 := tabL_ok noCh_ok ⟨ct48, ct52, ct32T, ct33T, ct34T, ct53, ct38i, ct44, ct42, ct43, ct49, ct37, trivial⟩
theorem chk_g : chkI [(0, 0, 0)] = 0 := by decide
theorem both_g (x : List Cl) : bothI x [(0, 0, 0)] = chkI x ∧ bothI [(0, 0, 0)] x = chkI x ∧ bothI x x = chkI x := by
 refine ⟨?_, ?_, ?_⟩
 ·unfold bothI
  by_cases e : chkI x = 0
  ·rw [e, chk_g]; rfl
  ·rw [show (chkI x == 0) = false by simpa using e]; rfl
 ·unfold bothI; rw [chk_g]; rfl
 ·unfold bothI; cases (chkI x == 0) <;> rfl
theorem mrg_small {x y : List Cl} {f : Nat} (hx : x.length ≤ 100) (hy : y.length ≤ 100) : (mrg f x y).length ≤ 1024 := by
 have := mrg_len f (x.length + y.length) x y
 unfold mrg; omega
theorem tx_chk {x : List Cl} (h : chkI x ≠ 0) : txE x = chkI x := by
 unfold txE
 rw [show (chkI x == 0) = false by simpa using h]; rfl
theorem tx_zero {x : List Cl} (h : chkI x = 0) : txE x = 0 ∨ txE x = 3 := by
 unfold txE
 rw [h]
 cases (decide (0 < x.length) && bigB x)
 ·exact .inl rfl
 ·exact .inr rfl
/-- What the law asks of a list, valid or not. -/
theorem err_ok {x : List Cl} (h : smL x) :
  ((okL (flatK x) x.length ∧ okQ x) ∧ (okL [.int .i64 0, .int .i64 0, .int .u8 0] 1 ∧ okQ [(0, 0, 0)]) ∧ (bothI x [(0, 0, 0)] = 0 → (mrg 89 x [(0, 0, 0)]).length ≤ 1024)) ∧
  ((okL [.int .i64 0, .int .i64 0, .int .u8 0] 1 ∧ okQ [(0, 0, 0)]) ∧ (okL (flatK x) x.length ∧ okQ x) ∧ (bothI [(0, 0, 0)] x = 0 → (mrg 90 [(0, 0, 0)] x).length ≤ 1024)) ∧
  ((okL (flatK x) x.length ∧ okQ x) ∧ (okL (flatK x) x.length ∧ okQ x) ∧ (bothI x x = 0 → (mrg 91 x x).length ≤ 1024)) := by
 obtain ⟨hq, hl, hs⟩ := h
 have hL : okL (flatK x) x.length := okL_flat hl
 have hG : okL [.int .i64 0, .int .i64 0, .int .u8 0] 1 := ⟨rfl, rfl, by decide⟩
 have hGq : okQ [(0, 0, 0)] := fun c hc => by
  rw [List.mem_singleton] at hc
  subst hc
  exact ⟨by decide, by decide⟩
 have h40 : chkI x = 0 → x.length ≤ 100 := fun e => by
  rcases hs with h | h
  ·omega
  ·exact absurd e h
 obtain ⟨b1, b2, b3⟩ := both_g x
 exact ⟨⟨⟨hL, hq⟩, ⟨hG, hGq⟩, fun e => mrg_small (h40 (b1 ▸ e)) (by simp)⟩, ⟨⟨hG, hGq⟩, ⟨hL, hq⟩, fun e => mrg_small (by simp) (h40 (b2 ▸ e))⟩, ⟨hL, hq⟩, ⟨hL, hq⟩, fun e => mrg_small (h40 (b3 ▸ e)) (h40 (b3 ▸ e))⟩
theorem sp12 (l : List Cl) (more : Int) (hq : okQ l) : SpecP Tryd.prog G 12 [cls l, .int .u8 more] (.bool true) [] := by
 cases hm : (more.tmod 4 == 1) with
 | false =>
  refine fnP_spec hcm hmx TO12ok ok12 rfl (ob_o12a l more) ?_
  simp only [unK_flat, ltb_iff, ltb_no, and_true, true_and, hm, iI]
  refine ⟨fun _ => trivial, fun hl => ?_⟩
  have hS : smL l := ⟨hq, by omega, .inl (by omega)⟩
  refine ⟨⟨okL_flat (by omega), hS⟩, ?_⟩
  rintro ⟨a, n, e⟩ ⟨f1, f2, _, f4⟩
  simp only at f1 f2 f4
  subst f1 f2 f4
  simp only [unK_flat]
  obtain ⟨g1, g2, g3⟩ := err_ok hS
  obtain ⟨b1, b2, b3⟩ := both_g l
  have gl := g3.1
  refine ⟨g1, g2, g3, ⟨id000, gl⟩, gl, gl, gl, gl, ⟨⟨fun h0 => ⟨fun h3 => ?_, fun h3 => ?_⟩, fun h0 => ?_⟩, ?_⟩⟩
  ·exact (beq_iff_eq.1 h0).symm
  ·rcases tx_zero (beq_iff_eq.1 h0) with e | e
   ·rw [e]; exact (beq_iff_eq.1 h0).symm
   ·rw [e] at h3; cases h3
  ·exact tx_chk (beq_eq_false_iff_ne.1 h0)
  rintro ⟨h⟩ e
  simp only at e
  subst e
  rw [b1, b2, b3]
  simp
 | true =>
  refine fnP_spec hcm hmx TO12ok ok12 rfl (ob_o12b l zerL more) ?_
  simp only [unK_flat, ltb_iff, ltb_no, and_true, true_and, hm, iI]
  refine ⟨fun _ => trivial, fun hl => ?_⟩
  have hzl : zerL.length = 1025 := List.length_replicate ..
  have hz3 : chkI zerL = 3 := by unfold chkI; rw [hzl]; rfl
  have hS : smL zerL := ⟨fun c hc => by rw [(List.mem_replicate.1 hc).2]; exact ⟨by decide, by decide⟩, by rw [hzl]; decide, .inr (by rw [hz3]; decide)⟩
  have hL := okL_flat (l := zerL) (by rw [hzl]; decide)
  refine ⟨zeroK 1025, ?_⟩
  rintro ⟨o⟩ ho
  have ho : o = flatK zerL := ho
  subst ho
  simp only [unK_flat]
  refine ⟨⟨by rw [← hzl]; exact hL, trivial, hzl.symm, hS, trivial⟩, ?_⟩
  rintro ⟨a, n, e⟩ ⟨f1, f2, _, f4⟩
  simp only at f1 f2 f4
  subst f1 f2 f4
  simp only [unK_flat]
  obtain ⟨g1, g2, g3⟩ := err_ok hS
  obtain ⟨b1, b2, b3⟩ := both_g zerL
  have gl := g3.1
  refine ⟨g1, g2, g3, ⟨id000, gl⟩, gl, gl, gl, gl, ⟨fun h0 => ?_, fun h0 => ?_⟩, ?_⟩
  ·rw [hz3] at h0; cases h0
  ·rw [tx_chk (by rw [hz3]; decide), hz3]
  rintro ⟨h⟩ e
  simp only at e
  subst e
  rw [b1, b2, b3, hz3]
  simp
end Go.Proofs.YtmnaghfndigfkaaDoor.X
