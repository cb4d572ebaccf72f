/-
 Cones: the contracts of growing, of all ways, Count and First.
-/
import Derived.Test.YthiammkiobbclaaGreatDoorO9Z
import Derived.Test.YthiammkiobbclaaGreatDoorP3Z
import Derived.Test.YthiammkiobbclaaGreatDoorLIZ
import Derived.Test.YthiammkiobbclaaGreatDoorLSZ
set_option maxRecDepth 1000000
set_option linter.unusedVariables false
set_option linter.unusedSimpArgs false
namespace Go.Proofs.YthiammkiobbclaaGreatDoor.X
open Go Go.Ab

/-! ### The library -/
theorem sp59 {o : List Int} {i : Nat} {x : Int} {cv : Option Nat} (hi : i ≤ o.length) (h0 : 0 < o.length) (hz : o.length < 1000000) :
  SpecD Tryz.prog G (.fn 59 [] []) [.full 32896 o.length, .int .i64 (i : Int), .full 517 1] [(517, .blk ⟨.ints .i64 [x], 1, 1, cv, some false, true, false⟩), (32896, .blk ⟨.ints .i64 o, 1, o.length, none, some false, true, false⟩)]
   (.imm (.ints .i64 (insA o i x)) (insA o i x).length none) [(32896, .blk ⟨.ints .i64 (insA o i x), 1, (insA o i x).length, none, some false, false, false⟩)] [] :=
 ins_spec lays59 rfl Tryz.func59 (by kernel_rfl) rfl (by decide) hi h0 hz
theorem sp59n {x : Int} {cv : Option Nat} :
  SpecD Tryz.prog G (.fn 59 [] []) [.nils, .int .i64 0, .full 517 1] [(517, .blk ⟨.ints .i64 [x], 1, 1, cv, some false, true, false⟩)] (.imm (.ints .i64 [x]) 1 none) [] [] :=
 ins_nil lays59 rfl Tryz.func59 (by kernel_rfl) rfl
theorem ct41n : CtOk Tryz.prog G 41 eCloneN := by
 intro args r h hp
 unfold eCloneN at h
 split at h <;> cases h
 exact fnP_spec hcm hmx T0ok ok41 rfl ob_o41n trivial
theorem ct51b : CtOk Tryz.prog G 51 e51b := by
 intro args r h hp
 unfold e51b at h
 split at h
 ·exact ct51z _ r h hp
 ·exact ct51 _ r h hp
theorem tGok : CtsOk Tryz.prog G tG := ⟨ct51, ct52, ct53, ct60, ct67, trivial⟩
/-! ### Growing -/
def S58 (a k r o : List Int) (L : List (List Int)) : Prop :=
 SpecD Tryz.prog G (.fn 58 [] []) [immN .i64 o, .ptr 64 0, .ptr 256 0, .ptr 129 0, .ptr 192 0] (hpG a k r L) (.tup []) (wsG (grwO a.length r k L o)) []
theorem chG_ok {a k r : List Int} {q : Nat} (hS : q ≤ a.length → 0 < q → ∀ o L, o.length = q → okG o → okL a L → S58 a k r o L) :
  ∀ h cv args e, chG a k r q h cv args = some e → optP e.p → SpecD Tryz.prog G cv args h e.v e.ws [] := by
 intro h cv args e he hp
 unfold chG at he
 split at he
 ·split at he
  ·rename_i f i n p j m _ _ _ o _ _ _ _ _ _ _ x _ _ _ _ _ _ h1 h2
   rw [cond_eq_ite] at he
   split at he
   ·rename_i hk
    cases he
    simp only [Bool.and_eq_true] at hk
    have e1 := Nat.eq_of_beq_eq_true hk.1
    have e2 := Nat.eq_of_beq_eq_true hk.2.1
    have e3 := Nat.eq_of_beq_eq_true hk.2.2
    subst e1 e2 e3
    obtain ⟨rfl, rfl, rfl, h0, hz, hp0, hp1⟩ := hp
    have := sp59 (x := x) (cv := some 1) (i := p.toNat) (o := o) (by omega) h0 hz
    rwa [show ((p.toNat : Nat) : Int) = p by omega] at this
   ·cases he
  ·cases he
 ·split at he
  ·rename_i f p j m _ x _ _ _ _ _ _ h1
   rw [cond_eq_ite] at he
   split at he
   ·rename_i hk
    cases he
    simp only [Bool.and_eq_true] at hk
    have e1 := Nat.eq_of_beq_eq_true hk.1
    have e2 := Nat.eq_of_beq_eq_true hk.2
    subst e1 e2
    obtain ⟨rfl, rfl, rfl⟩ := hp
    exact sp59n
   ·cases he
  ·cases he
 ·split at he
  ·rename_i f o m _ c g u v _ vs _ _ _ _ _ _ h1
   rw [cond_eq_ite] at he
   split at he
   ·rename_i hk
    cases he
    simp only [Bool.and_eq_true] at hk
    have e1 := Nat.eq_of_beq_eq_true hk.1
    have e2 := Nat.eq_of_beq_eq_true hk.2.1
    have e3 := Nat.eq_of_beq_eq_true hk.2.2.1
    have e4 := Nat.eq_of_beq_eq_true hk.2.2.2.1
    have e5 := Nat.eq_of_beq_eq_true hk.2.2.2.2
    subst e1 e2 e3 e4 e5
    obtain ⟨rfl, rfl, hq, hq1, hq2, hg, hl⟩ := hp
    have := hS hq1 hq2 o (unO vs) hq hg hl
    unfold S58 at this
    intro F ρ w xs hm hv
    obtain ⟨vl⟩ := xs
    refine this F ρ w ⟨vl⟩ hm ?_
    cases hv with
    | cons _ _ x1 r1 hx1 hv =>
     cases hx1 with
     | imm _ _ hi => exact .cons _ _ _ _ (.imm _ _ hi.caps) hv
   ·cases he
  ·cases he
 ·cases he
theorem cwB_or {n : Nat} {r k o : List Int} : cwB n r k o = true ↔ crsB n r (rkL o) = true ∨ wrgB k (rkL o) = true := by
 unfold cwB; rw [Bool.or_eq_true]
theorem cwB_no {n : Nat} {r k o : List Int} (h1 : crsB n r (rkL o) = false) (h2 : wrgB k (rkL o) = false) : cwB n r k o = false := by
 unfold cwB; rw [h1, h2]; rfl
theorem sp58_step {a k r o : List Int} {L : List (List Int)} (hN : okN a k r) (hT : TabOk Tryz.prog G (TG a k r (o.length + 1))) (h0 : 0 < o.length) (hq : o.length ≤ a.length) (ho : okG o) (hL : okL a L) : S58 a k r o L := by
 obtain ⟨n1, n2, n3⟩ := hN
 unfold S58
 refine fnD_spec hcm hmx hT ok58 rfl (ob_d_58 a k r o L) ?_
 have hc := cok_self a k r
 have hO := perm_okO ho (by omega : o.length ≤ 8)
 have hlp := leastL_perm r o
 have hlO := perm_okO hlp (by omega : o.length ≤ 8)
 have hLl := okL_len hL n1
 simp only [outV_un, inR_i64, and_true, true_and, leb_iff, leb_no, ltb_iff, ltb_no, ltn_iff, len'_iff, iI, insA_len', Int.toNat_natCast, forall_const, true_imp_iff]
 refine ⟨hO, ⟨hc, n1, n3⟩, fun h1 => ?_, fun h1 => ⟨⟨hc, n1, n2⟩, fun h2 => ?_, fun h2 => ⟨fun h3 => ⟨by omega, ⟨0, by omega, by omega, ?_, hL⟩, ?_⟩, fun h3 => ⟨⟨hc, hO, by omega, by omega⟩, hlO, fun h4 => ?_, fun h4 => ?_⟩⟩⟩⟩
 ·rw [grwO_stop (cwB_or.2 (.inl h1))]; exact ⟨rfl, rfl, rfl, rfl, rfl⟩
 ·rw [grwO_stop (cwB_or.2 (.inr h2))]; exact ⟨rfl, rfl, rfl, rfl, rfl⟩
 ·rfl
 ·rintro ⟨i, M⟩ ⟨m, hi, hm, hM, hok⟩
  simp only at hi hM hok ⊢
  subst hi
  subst hM
  simp only [Int.toNat_natCast]
  have hcn := cwB_no h1 h2
  refine ⟨fun h5 => ⟨⟨h0, by omega⟩, ⟨h0, by omega, by omega, by omega⟩, ⟨by omega, by omega, insA_perm ho, hok⟩, by omega, ⟨m + 1, by omega, by omega, grwM_step.symm, grwO_ok hok (by rw [insA_len']; omega)⟩, by omega⟩, fun h5 => ?_⟩
  have : m = o.length + 1 := by omega
  subst this
  rw [grwO_node hcn (by omega)]
  exact ⟨rfl, rfl, rfl, rfl, rfl⟩
 all_goals
  have hlen : o.length = a.length := by omega
  have hcn := cwB_no h1 h2
  rw [grwO_leaf hcn (by omega)]
  rw [hlen] at hlp
  rw [fnE_get n1 hlp L hL.2] at h4
  unfold addU
 ·have hm : leastL r o ∉ L := fun hm => by rw [if_pos hm] at h4; cases h4
  have hcb : L.contains (leastL r o) = false := by
   rw [← Bool.not_eq_true]
   exact fun h => hm (List.contains_iff_mem.1 h)
  rw [hcb, cond_false, fnE_snoc, fnK_snoc, List.length_append]
  refine ⟨hlO, by omega, rfl, ?_, rfl, rfl, rfl⟩
  unfold outV
  rw [List.map_append]; rfl
 ·have hm : leastL r o ∈ L := Classical.byContradiction fun hm => by rw [if_neg hm] at h4; cases h4
  rw [List.contains_iff_mem.2 hm]
  exact ⟨rfl, rfl, rfl, rfl, rfl⟩
/-- Growing, whatever the order's length. -/
theorem sp58 {a k r : List Int} (hN : okN a k r) : ∀ (d q : Nat), q + d = a.length → 0 < q → ∀ o L, o.length = q → okG o → okL a L → S58 a k r o L
 | 0, q, hd, h0, o, L, hl, ho, hL => by
  subst hl
  exact sp58_step hN (tabL_ok (chG_ok fun h _ => by omega) tGok) h0 (by omega) ho hL
 | d + 1, q, hd, h0, o, L, hl, ho, hL => by
  subst hl
  exact sp58_step hN (tabL_ok (chG_ok fun h h' => sp58 hN d (o.length + 1) (by omega) h') tGok) h0 (by omega) ho hL
theorem TGok {a k r : List Int} (hN : okN a k r) (q : Nat) : ∀ h cv args e, chG a k r q h cv args = some e → optP e.p → SpecD Tryz.prog G cv args h e.v e.ws [] :=
 chG_ok fun h h0 => sp58 hN (a.length - q) q (by omega) h0
theorem T60zok : TabOk Tryz.prog G T60z := tabL_ok noCh_ok ⟨ct51b, trivial⟩
theorem ct60z : CtOk Tryz.prog G 60 e60z := by
 intro args r h hp
 unfold e60z at h
 split at h <;> cases h
 rename_i a n _ k m _ r p _
 obtain ⟨rfl, rfl, rfl⟩ := hp
 refine con_caps (fnP_spec hcm hmx T60zok ok60 rfl (ob_o60z a k r) ?_)
 simp
theorem tGnok : CtsOk Tryz.prog G tGn := ⟨ct51b, ct52, ct53, ct60z, ct41n, trivial⟩
theorem sp58n {a k r : List Int} (hN : okN a k r) : SpecD Tryz.prog G (.fn 58 [] []) [.nils, .ptr 64 0, .ptr 256 0, .ptr 129 0, .ptr 192 0] (hpG a k r []) (.tup []) (wsG (grwO a.length r k [] [])) [] := by
 refine fnD_spec hcm hmx (tabL_ok (TGok hN 1) tGnok) ok58 rfl (ob_d_58n a k r) ?_
 obtain ⟨n1, n2, n3⟩ := hN
 have hc := cok_self a k r
 have hrk : rkL [] = [-1, -1, -1, -1, -1, -1, -1, -1] := rfl
 simp only [outV_un, inR_i64, and_true, true_and, leb_iff, leb_no, ltb_iff, ltb_no, ltn_iff, len'_iff, iI, insA_len', Int.toNat_natCast, forall_const, true_imp_iff, ← hrk]
 refine ⟨⟨hc, n1, n3⟩, fun h1 => ?_, fun h1 => ⟨⟨hc, n1, n2⟩, fun h2 => ?_, fun h2 => ⟨fun h3 => ⟨⟨by omega, by omega, List.Perm.refl _, List.nodup_nil, fun l hl => by cases hl⟩, ?_⟩, fun h3 => ⟨hc, ⟨by simp, by simp⟩, ⟨by simp, by simp⟩, ?_⟩⟩⟩⟩
 ·rw [grwO_stop (cwB_or.2 (.inl h1))]; exact ⟨rfl, rfl, rfl, rfl, rfl⟩
 ·rw [grwO_stop (cwB_or.2 (.inr h2))]; exact ⟨rfl, rfl, rfl, rfl, rfl⟩
 ·have e : grwO a.length r k [] [] = grwO a.length r k [] [0] := by
   rw [grwO_node (cwB_no h1 h2) (by simpa using h3)]; exact grwM_step
  rw [e]; exact ⟨rfl, rfl, rfl, rfl, rfl⟩
 ·rw [grwO_leaf (cwB_no h1 h2) (by rw [List.length_nil]; omega)]
  exact ⟨rfl, rfl, rfl, rfl, rfl⟩
/-! ### All ways -/
theorem sp61c {a : List Int} {L : List (List Int)} (hL : okL a L) (ha : a.length ≤ 8) : SpecD Tryz.prog G (.fn 61 [] []) [.full 9700 L.length, .fn 62 [] []] [(9700, .blk (bkO L))] (.tup []) [(9700, .blk ⟨.vals (outV (srtL L)), 1, L.length, none, some true, true, false⟩)] [] := by
 have hz := okL_len hL ha
 exact sort1_spec (G := G) (Gs := Gs) sort611 sort610 (immL .i64) cmpL swoL rfl Tryz.func61 (by kernel_rfl) rfl Tryz.func62 (by kernel_rfl) rfl trivial (fun _ => rfl) (id := 9700) (d := L) (res := srtL L)
  (fun x hx y hy => by
   have e1 := perm_len (hL.2 x hx)
   have e2 := perm_len (hL.2 y hy)
   exact (sp62s x y (by omega) (by omega) : SpecP Tryz.prog Gs 62 (capsL [immL .i64 x, immL .i64 y]) _ []).caps)
  (by omega) (srtL_perm L) (srtL_srt hL.1)
theorem chW_ok {a k r : List Int} (hN : okN a k r) : ∀ h cv args e, chW a k r h cv args = some e → optP e.p → SpecD Tryz.prog G cv args h e.v e.ws [] := by
 intro h cv args e he hp
 unfold chW at he
 split at he
 ·rename_i f c g u v vs _ _ _ _ _ _ h1
  rw [cond_eq_ite] at he
  split at he
  ·rename_i hk
   cases he
   simp only [Bool.and_eq_true] at hk
   have e1 := Nat.eq_of_beq_eq_true hk.1
   have e2 := Nat.eq_of_beq_eq_true hk.2.1
   have e3 := Nat.eq_of_beq_eq_true hk.2.2.1
   have e4 := Nat.eq_of_beq_eq_true hk.2.2.2.1
   have e5 := Nat.eq_of_beq_eq_true hk.2.2.2.2
   subst e1 e2 e3 e4 e5
   obtain ⟨rfl, _⟩ := hp
   exact sp58n hN
  ·cases he
 ·rename_i f i n g vs _ _ _ _ _ _ h1
  rw [cond_eq_ite] at he
  split at he
  ·rename_i hk
   cases he
   simp only [Bool.and_eq_true] at hk
   have e1 := Nat.eq_of_beq_eq_true hk.1
   have e2 := Nat.eq_of_beq_eq_true hk.2.1
   have e3 := Nat.eq_of_beq_eq_true hk.2.2
   subst e1 e2 e3
   obtain ⟨rfl, rfl, hl⟩ := hp
   exact sp61c hl hN.1
  ·cases he
 ·cases he
theorem okL_nil (a : List Int) : okL a [] := ⟨List.nodup_nil, fun l hl => by cases hl⟩
theorem grw_okL {a k r : List Int} : okL a (grwO a.length r k [] []) := grwO_ok (okL_nil a) (Nat.zero_le _)
theorem ctc38 : CtOk Tryz.prog G 38 e38c := by
 intro args r h hp
 unfold e38c at h
 split at h <;> cases h
 rename_i a n _ k m _ r p _
 obtain ⟨⟨rfl, rfl, rfl⟩, hN⟩ := hp
 refine con_caps (fnP_spec hcm hmx (tabL_ok (l := []) (chW_ok hN) trivial) ok38 rfl (ob_o38c a k r) ?_)
 simp only [outV_un, and_true, true_and, forall_const, true_imp_iff]
 have hp := (srtL_perm (grwO a.length r k [] [])).length_eq
 exact ⟨hN, grw_okL, rfl, hp.symm⟩
theorem TCok : TabOk Tryz.prog G TC := tabL_ok noCh_ok ⟨ctc37, ctc38, trivial⟩
theorem bLs_t {b : Bool} (h : b = true) (l : List Int) : bLs b l = l := by rw [h]; rfl
theorem alt_okN {a k : List Int} (h : altS a k = true) : okN a k (raysL a) := by
 obtain ⟨h1, h2, _⟩ := alt_facts h
 exact ⟨h2, h1.symm, raysL_len a⟩
theorem ctc16 : CtOk Tryz.prog G 16 e16c := by
 intro args r h hp
 unfold e16c at h
 split at h <;> cases h
 rename_i a n _ k m _
 obtain ⟨rfl, rfl, hz⟩ := hp
 refine fan_caps (fnP_spec hcm hmx TCok ok16 rfl (ob_o16c a k) ?_)
 unfold cntE cwL
 simp only [ofE_alt, and_true, true_and, beq_iff_eq, beq_eq_false_iff_ne, ne_eq]
 refine ⟨hz, fun h1 => ?_, fun h1 => ⟨fun h2 => ?_, fun h2 => ?_⟩⟩
 ·simp only [h1, bLs_t, cond_true, ofE_0 h1]
  exact ⟨⟨cok_self .., alt_okN h1⟩, trivial, by decide⟩
 ·rw [h1, if_pos h2]; exact ⟨rfl, rfl⟩
 ·rw [h1, if_neg h2]; exact ⟨rfl, rfl⟩
theorem outV_get {L : List (List Int)} (h : 0 < L.length) : (outV L)[0]? = some (immL .i64 (L[0]?.getD [])) := by
 cases L with
 | nil => simp at h
 | cons x r => rfl
theorem ctc17 : CtOk Tryz.prog G 17 e17c := by
 intro args r h hp
 unfold e17c at h
 split at h <;> cases h
 rename_i a n _ k m _
 obtain ⟨rfl, rfl, hz⟩ := hp
 refine fan_caps (fnP_spec hcm hmx TCok ok17 rfl (ob_o17c a k) ?_)
 dsimp -failIfUnchanged -proj -eta -iota -zeta only
 unfold fstE fstL
 simp only [ofE_alt, bne, Bool.not_eq_true', Bool.not_eq_false', and_true, true_and, beq_iff_eq, beq_eq_false_iff_ne, ne_eq, ltb_iff, ltb_no, ltn_iff, size_vals, size_ints, List.drop_zero, outV_len]
 have e0 : altS a k = false → cwL a k = [] := fun h => by unfold cwL; rw [h]; rfl
 refine ⟨hz, fun h1 => ⟨fun h2 => ?_, fun h2 => ⟨fun h3 => (by rw [h1] at h3; cases h3), fun _ => ?_⟩⟩, fun h1 => ⟨fun _ => ?_, fun h3 => (by rw [h1] at h3; cases h3)⟩⟩
 ·have h0 := ofE_no h1
  rw [e0 h1, if_neg (by omega)]
  exact ⟨rfl, rfl, rfl, rfl⟩
 ·rw [e0 h1, if_pos (.inr h2), if_pos rfl]
  exact ⟨rfl, rfl, rfl, rfl⟩
 ·have e1 : cwL a k = waysL a.length (raysL a) k := by unfold cwL; rw [h1]; rfl
  simp only [bLs_t h1, ofE_0 h1, ← e1, true_or, if_true]
  refine ⟨⟨cok_self .., alt_okN h1⟩, fun h2 => ⟨h2, by omega, outV_get (by omega), ?_⟩, fun h2 => ?_⟩
  ·rw [if_neg]
   intro h; rw [h] at h2; simp at h2
  ·have : cwL a k = [] := List.length_eq_zero_iff.1 (by omega)
   rw [this]
   exact ⟨rfl, rfl, rfl, rfl⟩
end Go.Proofs.YthiammkiobbclaaGreatDoor.X
