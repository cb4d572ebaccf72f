/-
 The law on moves.
-/
import Derived.Test.YtmnaghfndigfkaaDoorPVZ
import Derived.Test.YtmnaghfndigfkaaDoorOWZ
import Derived.Test.YtmnaghfndigfkaaDoorCLZ
import Derived.Test.YtmnaghfndigfkaaDoorLZ
set_option maxRecDepth 1000000
set_option linter.unusedVariables false
set_option linter.unusedSimpArgs false
namespace Go.Proofs.YtmnaghfndigfkaaDoor.X
open Go Go.Ab

theorem TW9ok : TabOk Tryd.prog G TW9 := tabL_ok noCh_ok ⟨ct31, ct38, ct39, ct40, ct41, ct42, ct35, ct37, trivial⟩
theorem bI9 (b : Bool) : (bI b 1 0 == 0) = !b := by cases b <;> rfl
theorem sp9 (t a b : Int) (l : List Cl) (ht : 0 ≤ t ∧ t ≤ 255) (h1 : rawP l) : SpecP Tryd.prog G 9 [.agg [.int .u8 t, .int .i64 a, .int .i64 b], rwS l] (.bool true) [] := by
 refine fnP_spec hcm hmx TW9ok ok9 rfl (ob_o9 t a b l) ?_
 simp only [unS_flat, and_true, true_and]
 have k := okM_sOf h1
 generalize sOf l = x at *
 have hS := okM_S k (by decide)
 have h0 : chkI x = 0 := hS.2
 have hL : okL (flatK x) x.length := okL_flat (by have := k.2.2; omega)
 have hx40 : x.length ≤ 40 := k.2.2
 have hvM : vlM x := ⟨k.2.1, by omega⟩
 have hnd := srt_nodup k.1
 have hq3 : ∀ c ∈ x, 0 ≤ c.2.2 ∧ c.2.2 ≤ 3 := fun c hc => ⟨(k.2.1 c hc).2, (vldC_iff.1 (k.2.1 c hc).1).2.2.2.2⟩
 have hwl : (wan t a b x).length ≤ 40 := by
  have := ofL_len (mvL t a b x)
  rw [mvL_len] at this
  unfold wan; omega
 refine ⟨h1, ?_⟩
 rintro ⟨a', n'⟩ ⟨f1, f2⟩
 simp only at f1 f2
 subst f1 f2
 have ew : ofL (mvL t a b x) = wan t a b x := rfl
 simp only [unK_flat, h0, ew, bI9, flatK_len, size_vals, Bool.not_eq_true', Bool.not_eq_false', ltb_iff, ltb_no, leb_iff, leb_no, ltn_iff, inR_i64, and_true, true_and, beq_iff_eq]
 refine ⟨⟨ht, hL, hS.1⟩, ht, fun hV => ?_, fun hV => ?_⟩
 ·have e : mvE t a b x = 1 := by unfold mvE; rw [hV]; rfl
  rw [mvR_no (by rw [e]; decide), e]; exact ⟨rfl, rfl⟩
 have hm := V_mvO hV ht.1
 have hT := hm.1
 have eE : mvE t a b x = bI (mvOut t a b x) 0 3 := by unfold mvE; rw [hV, cond_true]; exact chkY h0 _ _
 obtain ⟨o1, o2⟩ := ofL_srt (mvL t a b x)
 refine ⟨⟨hm, hL, hvM⟩, ⟨0, rfl, by omega, rfl⟩, ?_⟩
 rintro ⟨i⟩ ⟨n, i1, i2, i3⟩
 simp only at i1 ⊢
 subst i1
 simp only [Int.toNat_natCast]
 refine ⟨fun hlt => ?_, fun hge => ?_⟩
 ·have g1 : n < (wan t a b x).length := by omega
  obtain ⟨a0, a1, a2⟩ := kget g1
  refine ⟨by omega, by omega, by omega, a0, a1, a2, fun hb => ?_, fun hb => ⟨by omega, ⟨n + 1, by omega, by omega, ?_⟩, by omega⟩⟩
  ·have hmem : kC (wan t a b x) n ∈ mvL t a b x := by
    have := List.getElem_mem g1
    rw [kAt g1] at this
    exact (o2 _).1 this
   have hno : mvOut t a b x = false := by
    cases hh : mvOut t a b x with
    | false => rfl
    | true =>
     have := List.all_eq_true.1 hh _ hmem
     rw [show vldC (kC (wan t a b x) n) = false from hb] at this
     cases this
   have e : mvE t a b x = 3 := by rw [eE, hno]; rfl
   rw [mvR_no (by rw [e]; decide), e]; exact ⟨rfl, rfl⟩
  ·rw [take_at g1]
   unfold alB at i3 ⊢
   rw [List.all_append, i3]
   show (true && (vldC _ && true)) = true
   rw [hb]; rfl
 ·have e : n = (wan t a b x).length := by omega
  subst e
  rw [List.take_length] at i3
  have hall : mvOut t a b x = true := by
   unfold mvOut
   rw [List.all_eq_true]
   intro y hy
   exact List.all_eq_true.1 i3 y ((o2 y).2 hy)
  have e0 : mvE t a b x = 0 := by rw [eE, hall]; rfl
  have eX : mvR t a b x = srtQ (mvL t a b x) := by unfold mvR; rw [e0]; rfl
  have hmq3 := mvL_q (t := t) (a := a) (b := b) hT hq3
  have hmq : okQ (mvL t a b x) := fun y hy => by have := hmq3 y hy; omega
  have hmnd : (mvL t a b x).Nodup := by
   refine List.pairwise_map.2 (List.Pairwise.imp_of_mem (fun {c d} hc hd hne he => hne ?_) hnd)
   exact mvC_inj hT a b (hq3 c hc).1 (hq3 c hc).2 (hq3 d hd).1 (hq3 d hd).2 he
  have hsq : Srt (srtQ (mvL t a b x)) := srtQ_srt hmq hmnd
  have eS' : srtQ (mvL t a b x) = wan t a b x := srt_ext hsq o1 fun y => by rw [(srtQ_perm _).mem_iff]; exact (o2 y).symm
  rw [eX, eS', e0]
  have hK : okL (flatK (wan t a b x)) (wan t a b x).length := okL_flat (by omega)
  have hwq : okQ (wan t a b x) := fun y hy => hmq y ((o2 y).1 hy)
  have hwlen : (wan t a b x).length = x.length := by rw [← eS', srtQ_len, mvL_len]
  have hchk : chkI (wan t a b x) = 0 := by
   unfold chkI
   rw [decide_eq_false (by omega), badL_no fun y hy => List.all_eq_true.1 i3 y hy, srtB_iff.2 (show Srt (wan t a b x) from o1)]; rfl
  have hcn : cnX (wan t a b x) = conB (wan t a b x) := chkY hchk _ _
  have hcx : cnX x = conB x := chkY h0 _ _
  have hcon : conB (wan t a b x) = conB x := con_mv hT a b hq3 fun y => by
   rw [show y ∈ wan t a b x ↔ y ∈ mvL t a b x from o2 y]
   exact List.mem_map
  refine ⟨⟨hL, hS.1⟩, ⟨hK, hwq⟩, rfl, ⟨hK, hK⟩, by rw [Nat.beq_refl, eqLC_iff.2 rfl]; rfl, by omega, hchk, ?_⟩
  rw [hcn, hcx, hcon]
end Go.Proofs.YtmnaghfndigfkaaDoor.X
