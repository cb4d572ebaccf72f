/-
  Texts: places, counts, pieces, joins; the texts of fans.
-/
import Derived.Test.YtfafinkgmhkdmaaDoorVO9Z
import Derived.Test.YtfafinkgmhkdmaaDoorVC6hZ
set_option maxRecDepth 1000000
set_option linter.unusedVariables false
set_option linter.unusedSimpArgs false
namespace Go.Proofs.YtfafinkgmhkdmaaDoor.X
open Go Go.Ab

theorem specP_nat {f : Nat} {args : List AV} {v : AV} {nat : Nat → List AV → Option AV} (hn : NatOk Tryd.prog nat) (h : nat f args = some v) : SpecP Tryd.prog G f args v [] := by
  intro F w vs hm hv
  obtain ⟨y, h1, h2⟩ := hn f args v h F noR noH w vs hv.toVs
  have e : hsH [] = noH := by funext i; simp [hsH, noH]
  rw [e]
  exact .inl ⟨_, y, w, h1, .inl rfl, F, noR, hm, Ext.refl _ _ _, h2⟩
theorem sp107 (s : List UInt8) (b : Int) : SpecP Tryd.prog G 107 [.str s, .int .u8 b] (.int .i64 (ixB s b)) [] := specP_nat natsOk rfl
theorem sp121 (s : List UInt8) (b : Int) : SpecP Tryd.prog G 121 [.str s, .int .u8 b] (.int .i64 (ctB s b)) [] := specP_nat natsOk rfl
theorem ctIx {f : Nat} (h : ∀ s b, SpecP Tryd.prog G f [.str s, .int .u8 b] (.int .i64 (ixB s b)) []) : CtOk Tryd.prog G f eIxB := by
  intro args r hr hp
  unfold eIxB at hr
  split at hr <;> cases hr
  exact h _ _
theorem ctCt {f : Nat} (h : ∀ s b, SpecP Tryd.prog G f [.str s, .int .u8 b] (.int .i64 (ctB s b)) []) : CtOk Tryd.prog G f eCtB := by
  intro args r hr hp
  unfold eCtB at hr
  split at hr <;> cases hr
  exact h _ _
theorem XAok : TabOk Tryd.prog G XA := tabL_ok noCh_ok ⟨ctIx sp107, ctCt sp121, trivial⟩
theorem sp82 (s : List UInt8) (b : Int) : SpecP Tryd.prog G 82 [.str s, .int .u8 b] (.int .i64 (ixB s b)) [] := by
  refine fnP_spec hcm hmx XAok ok82 rfl (ob_o82 s b) ?_
  simp
theorem XA2ok : TabOk Tryd.prog G (tabL ((82, eIxB) :: xA) noCh) := tabL_ok noCh_ok ⟨ctIx sp82, ctIx sp107, ctCt sp121, trivial⟩
theorem sp60 (s : List UInt8) (b : Int) : SpecP Tryd.prog G 60 [.str s, .int .u8 b] (.int .i64 (ixB s b)) [] := by
  refine fnP_spec hcm hmx XA2ok ok60 rfl (ob_o60 s b) ?_
  simp
theorem xBok : CtsOk Tryd.prog G xB := ⟨ctIx sp82, ctIx sp60, ctIx sp107, ctCt sp121, trivial⟩
theorem XBok : TabOk Tryd.prog G XB := tabL_ok noCh_ok xBok
theorem beq_u8 (b c : UInt8) : Nat.beq b.toNat c.toNat = (b == c) := by
  cases h : (b == c) with
  | true => rw [beq_iff_eq] at h; subst h; simp
  | false =>
    have : b.toNat ≠ c.toNat := fun e => by
      rw [beq_eq_false_iff_ne] at h
      exact h (UInt8.toNat_inj.1 e)
    exact Bool.eq_false_iff.2 fun e => this (Nat.eq_of_beq_eq_true e)
theorem idx_blank : ∀ (s : List UInt8) (i : Int), 0 ≤ i → (idxB s 32 i = -1 ∧ splitS s = [s] ∧ 32 ∉ s) ∨ ∃ m : Nat, idxB s 32 i = i + m ∧ m < s.length ∧ splitS s = s.take m :: splitS (s.drop (m + 1))
  | [], i, h => .inl ⟨rfl, rfl, by simp⟩
  | c :: s, i, h => by
    have hb := beq_u8 c 32
    rw [idxB, hb]
    cases hc : (c == 32) with
    | true =>
      refine .inr ⟨0, by simp, by simp, ?_⟩
      simp [splitS, hc]
    | false =>
      have hc2 : c ≠ 32 := beq_eq_false_iff_ne.1 hc
      simp only [cond_false]
      rcases idx_blank s (i + 1) (by omega) with ⟨h1, h2, h3⟩ | ⟨m, h1, h2, h3⟩
      · refine .inl ⟨h1, ?_, ?_⟩
        · simp [splitS, hc, h2, consS]
        · simp only [List.mem_cons, not_or]
          exact ⟨fun h => hc2 h.symm, h3⟩
      · refine .inr ⟨m + 1, by rw [h1]; omega, by simp; omega, ?_⟩
        simp [splitS, hc, h3, consS]
theorem ix_blank (s : List UInt8) : (ixB s 32 = -1 ∧ splitS s = [s]) ∨ ∃ m : Nat, ixB s 32 = m ∧ m < s.length ∧ splitS s = s.take m :: splitS (s.drop (m + 1)) := by
  rcases idx_blank s 0 (by omega) with ⟨h1, h2, h3⟩ | ⟨m, h1, h2, h3⟩
  · exact .inl ⟨h1, h2⟩
  · exact .inr ⟨m, by rw [Int.zero_add] at h1; exact h1, h2, h3⟩
theorem consS_len (c : UInt8) (l : List (List UInt8)) (h : 1 ≤ l.length) : (consS c l).length = l.length := by
  cases l with
  | nil => simp at h
  | cons x r => rfl
theorem split_pos : ∀ (s : List UInt8), 1 ≤ (splitS s).length ∧ (splitS s).length ≤ s.length + 1
  | [] => by simp [splitS]
  | c :: s => by
    obtain ⟨h1, h2⟩ := split_pos s
    rw [splitS, cond_eq_ite]
    split
    · simp; omega
    · rw [consS_len c _ h1]; simp; omega
theorem cnt_blank : ∀ (s : List UInt8) (n : Int), cntB s 32 n + 1 = n + (splitS s).length
  | [], n => by simp [cntB, splitS]
  | c :: s, n => by
    have hb := beq_u8 c 32
    have h1 := cnt_blank s (n + 1)
    have h2 := cnt_blank s n
    have h3 := (split_pos s).1
    rw [cntB, hb, splitS]
    cases hc : (c == 32) with
    | true => simp; omega
    | false => simp only [cond_false]; rw [consS_len c _ h3]; exact h2
theorem ct_blank (s : List UInt8) : ctB s 32 + 1 = (splitS s).length := by
  have := cnt_blank s 0
  rw [Int.zero_add] at this
  exact this
theorem sp122 (s : List UInt8) : SpecP Tryd.prog G 122 [.str s, .str [32]] (.int .i64 (ixB s 32)) [] := by
  refine fnP_spec hcm hmx XBok ok122 rfl (ob_o122 s) ?_
  have h : ∀ s : List UInt8, ([32] == s) = true → 0 = ixB s 32 := fun s h => by
    rw [← beq_iff_eq.1 h]; rfl
  simp only [and_true, true_and, implies_true]
  exact h s
theorem sp105 (s : List UInt8) : SpecP Tryd.prog G 105 [.str s, .str [32]] (.int .i64 (ctB s 32)) [] := by
  refine fnP_spec hcm hmx XBok ok105 rfl (ob_o105 s) ?_
  simp
theorem ct122 : CtOk Tryd.prog G 122 eIx1 := by
  intro args r hr hp
  unfold eIx1 at hr
  split at hr <;> cases hr
  obtain ⟨rfl, hz⟩ := hp
  exact sp122 _
theorem ct105 : CtOk Tryd.prog G 105 eCt1 := by
  intro args r hr hp
  unfold eCt1 at hr
  split at hr <;> cases hr
  obtain ⟨rfl, hz⟩ := hp
  exact sp105 _
theorem xCok : CtsOk Tryd.prog G xC := ⟨ct122, ct105, xBok⟩
theorem XCok : TabOk Tryd.prog G XC' := tabL_ok noCh_ok xCok
theorem sp106 (s : List UInt8) (h : s.length < 1000000000) : SpecP Tryd.prog G 106 [.str s, .str [32]] (.int .i64 (ixB s 32)) [] := by
  refine fnP_spec hcm hmx XCok ok106 rfl (ob_o106 s) ?_
  simp [h]
theorem ct106 : CtOk Tryd.prog G 106 eIx1 := by
  intro args r hr hp
  unfold eIx1 at hr
  split at hr <;> cases hr
  obtain ⟨rfl, hz⟩ := hp
  exact sp106 _ hz
theorem xDok : CtsOk Tryd.prog G xD := ⟨ct106, xCok⟩
theorem XDok : TabOk Tryd.prog G XD := tabL_ok noCh_ok xDok
theorem sp81 (s : List UInt8) (h : s.length < 1000000) : SpecP Tryd.prog G 81 [.str s, .str [32], .int .i64 0, .int .i64 (-1)] (.imm (.strs (splitS s)) (splitS s).length none) [] := by
  refine fnP_spec hcm hmx XDok ok81 rfl (ob_o81 s) ?_
  obtain ⟨p1, p2⟩ := split_pos s
  have hc := ct_blank s
  have hN : (if (s.length : Int) + 1 < ctB s 32 + 1 then (s.length : Int) + 1 else ctB s 32 + 1) = ((splitS s).length : Int) := by
    rw [if_neg (by omega), hc]
  rw [hN, hc]
  generalize hL : splitS s = L at *
  simp only [ltb_iff, ltb_no, leb_iff, leb_no, ltn_iff, ltn_no, len'_iff, len'_no, inR_i64, Cont.size, Nat.zero_add, Nat.add_zero, Nat.mul_one, Int.toNat_natCast, and_true, true_and, List.length_drop, List.length_take, List.length_set, List.length_replicate, implies_true, iI, uL, Int.natCast_inj]
  repeat refine ⟨by omega, ?_⟩
  refine ⟨⟨0, rfl, by omega, by simp, by omega⟩, ?_⟩
  rintro ⟨i, t, l⟩ ⟨n, rfl, h1, h2, h3, h4⟩
  simp only at h1 h2 h3 h4 ⊢
  have key : splitS t = L.drop n := by
    rw [← h3, List.drop_left' (by simp; omega)]
  have kl := congrArg List.length key
  rw [List.length_drop] at kl
  have e1 : ((n : Int) + 1).toNat = n + 1 := by omega
  simp only [Int.toNat_natCast, e1]
  have ts : ∀ x : List UInt8, (l.set n x).take (n + 1) = l.take n ++ [x] := fun x => by
    rw [List.take_add_one, List.getElem?_set_self (by omega), List.take_set_of_le (Nat.le_refl _)]; rfl
  rcases ix_blank t with ⟨g1, g2⟩ | ⟨m, g1, g2, g3⟩
  · have kl2 : 1 = L.length - n := by rw [← kl, g2]; rfl
    refine ⟨fun hlt => by omega, fun hge => ?_⟩
    rw [ts, ← g2, h3]
    repeat refine ⟨by omega, ?_⟩
    first | rfl | exact ⟨rfl, by omega⟩
  · have kl2 : 1 + (splitS (t.drop (m + 1))).length = L.length - n := by rw [← kl, g3]; simp; omega
    have kp := (split_pos (t.drop (m + 1))).1
    refine ⟨fun hlt => ⟨by omega, fun hx => by omega, fun hx => ?_⟩, fun hge => by omega⟩
    have e2 : ((m : Int) + 0).toNat = m := by omega
    have e3 : ((m : Int) + 1).toNat = m + 1 := by omega
    rw [g1, e2, e3]
    repeat refine ⟨by omega, ?_⟩
    refine ⟨⟨n + 1, by omega, by omega, by omega, ?_, by omega⟩, by omega⟩
    rw [ts, List.append_assoc, List.singleton_append, ← g3, h3]
theorem ct81 : CtOk Tryd.prog G 81 eSplit := by
  intro args r hr hp
  unfold eSplit at hr
  split at hr
  · rw [cond_eq_ite] at hr
    split at hr
    · rename_i hm
      cases hr
      obtain ⟨rfl, hz⟩ := hp
      rw [beq_iff_eq] at hm
      subst hm
      exact sp81 _ hz
    · cases hr
  · cases hr
theorem XEok : TabOk Tryd.prog G XE := tabL_ok noCh_ok ⟨ct81, xDok⟩
theorem sp59 (s : List UInt8) (h : s.length < 1000000) : SpecP Tryd.prog G 59 [.str s, .str [32]] (.imm (.strs (splitS s)) (splitS s).length none) [] := by
  refine fnP_spec hcm hmx XEok ok59 rfl (ob_o59 s) ?_
  simp [h]
theorem ct59 : CtOk Tryd.prog G 59 e59 := by
  intro args r hr hp
  unfold e59 at hr
  split at hr <;> cases hr
  obtain ⟨rfl, hz⟩ := hp
  exact sp59 _ hz
theorem ct60 : CtOk Tryd.prog G 60 eIxB := ctIx sp60
end Go.Proofs.YtfafinkgmhkdmaaDoor.X
