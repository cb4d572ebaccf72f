/-
 The law Turned.
-/
import Derived.Test.YtfpcbimohikhmaaDoorC13Z
import Derived.Test.YtfpcbimohikhmaaDoorO9Z
set_option maxRecDepth 1000000
set_option linter.unusedVariables false
set_option linter.unusedSimpArgs false
namespace Go.Proofs.YtfpcbimohikhmaaDoor.X
open Go Go.Ab
theorem ct24v : CtOk Tryd.prog G 24 e24v := by
 intro args r h hp
 unfold e24v at h
 split at h <;> cases h
 rename_i w h a n _
 obtain ⟨h4, ⟨h1, h2, h3⟩, hv⟩ := hp
 generalize unC a = l at *
 subst h1 h2
 have hs := s4_s5 h4
 have hl := vP_len hs hv
 have := sp24 w h l (by omega) (vP_edg hv) (fun _ => hs)
 rw [vP_chk hs hv] at this
 exact this.caps
theorem ct25v : CtOk Tryd.prog G 25 e25v := by
 intro args r h hp
 unfold e25v at h
 split at h <;> cases h
 rename_i w h a n _
 obtain ⟨h4, ⟨h1, h2, h3⟩, hv⟩ := hp
 generalize unC a = l at *
 subst h1 h2
 have hs := s4_s5 h4
 have hl := vP_len hs hv
 have := sp25 w h l (by omega) (vP_edg hv)
 unfold opR at this
 rw [vP_chk hs hv] at this
 exact this.caps
theorem cT4ok : CtsOk Tryd.prog G cT4' := ⟨ct14, ct25v, ct22z, ct26, ct27v, ct28, ct18, trivial⟩
theorem TB4ok : TabOk Tryd.prog G TB4 := tabL_ok noCh_ok ⟨ct24v, cT4ok⟩
theorem sp4 (W H : Int) (ks : List Int) (h1 : 0 ≤ W ∧ W ≤ 255) (h2 : 0 ≤ H ∧ H ≤ 255) (hu : u8s ks) : SpecP Tryd.prog G 4 [patP W H ks] (.bool true) [] := by
 refine fnP_spec hcm hmx TB4ok ok4 rfl (ob_o4 W H ks) ?_
 dsimp -failIfUnchanged -proj -eta -iota -zeta only
 have d1 := dim_ok h1
 have d2 := dim_ok h2
 have h4 : s4 (dim W) (dim H) := ⟨⟨d1.1, d1.2.1⟩, d2.1, d2.2.1⟩
 have hs := s4_s5 h4
 have hv := of_vP h1 h2 hu
 generalize ofL W H ks = l at *
 have hT := tr_vP h4.1 h4.2 hv
 have hO := op_vP hv
 have hE := tr_rt h4.1 h4.2 hv
 have hTT := tr_tr h4.1 h4.2 hv
 simp only [unC_flat]
 have hOO := op_op l
 have hol := opL_len l
 rw [hTT, hOO]
 rw [← hE]
 have kv := okV_of hs hv
 have kT := okV_of hs hT
 have kO := okV_of hs hO
 rw [hol] at kO ⊢
 simp only [ltb_iff, ltb_no, leb_iff, leb_no, inR_i64, and_true, true_and, bne_self_eq_false, cond_false, Bool.not_false]
 refine ⟨⟨h1.1, h1.2, h2.1, h2.2, hu⟩, ⟨h4, kv⟩, ⟨h4, kv⟩, ⟨hs, kv.1⟩, ⟨kT.1, kT.1⟩, ⟨hs, kT⟩, ⟨0, by simp, by omega⟩, ?_⟩
 have hll := vP_len hs hv
 rintro ⟨i⟩ ⟨n, hi, hn⟩
 simp only at hi ⊢
 subst hi
 simp only [Int.toNat_natCast]
 refine ⟨fun hlt => ?_, fun hge => ⟨⟨h4, kT⟩, ⟨h4, kO⟩, ⟨kv.1, kv.1⟩, ⟨kv.1, kv.1⟩, ⟨h1.1, h1.2, h2.1, h2.2, hu⟩, kv.1, kv.1⟩⟩
 have g1 : n < l.length := by omega
 have g2 : n < (opL l).length := by omega
 obtain ⟨c1, c2, c3⟩ := cget' g1
 obtain ⟨b1, b2, b3⟩ := cget' g2
 have hx : (opL l)[n] = (cC l n, cE l n, otK (cK l n)) := by
  have : (opL l)[n] = opC l[n] := List.getElem_map ..
  rw [this, cAt g1]; rfl
 have hy := cAt g2
 rw [hx] at hy
 simp only [Prod.mk.injEq] at hy
 refine ⟨by omega, by omega, c1, c2, c3, by omega, by omega, b1, b2, b3, ?_, by omega, ⟨n + 1, by omega, by omega⟩, by omega⟩
 rw [← hy.1, ← hy.2.1, ← hy.2.2]
 simp
end Go.Proofs.YtfpcbimohikhmaaDoor.X
