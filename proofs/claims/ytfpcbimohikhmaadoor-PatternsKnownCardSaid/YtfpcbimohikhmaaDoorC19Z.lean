/-
 The closed law.
-/
import Derived.Test.YtfpcbimohikhmaaDoorO12Z
import Derived.Test.YtfpcbimohikhmaaDoorC14Z
import Derived.Test.YtfpcbimohikhmaaDoorC15Z
import Derived.Test.YtfpcbimohikhmaaDoorC16Z
import Derived.Test.YtfpcbimohikhmaaDoorC17Z
import Derived.Test.YtfpcbimohikhmaaDoorC18Z
set_option maxRecDepth 1000000
set_option linter.unusedVariables false
set_option linter.unusedSimpArgs false
namespace Go.Proofs.YtfpcbimohikhmaaDoor.X
open Go Go.Ab

theorem ctK3 : CtOk Tryd.prog G 3 eK3 := by
 intro args r h hp
 unfold eK3 at h
 split at h <;> cases h
 obtain ⟨h1, h2, rfl, hu, he, hk⟩ := hp
 exact (sp3 _ _ _ _ _ _ h1 h2 hu he hk).caps
theorem ctK6 : CtOk Tryd.prog G 6 eK6 := by
 intro args r h hp
 unfold eK6 at h
 split at h <;> cases h
 obtain ⟨h1, h2, rfl, hu, ha, hb, hk, hl⟩ := hp
 exact (sp6 _ _ _ _ _ _ _ h1 h2 hu ha hb hk hl).caps
theorem ctK7 : CtOk Tryd.prog G 7 eK7 := by
 intro args r h hp
 unfold eK7 at h
 split at h <;> cases h
 obtain ⟨h1, h2, rfl, hu, g1, g2, rfl, gu, hp, hq⟩ := hp
 exact (sp7 _ _ _ _ _ _ _ _ h1 h2 hu g1 g2 gu hp hq).caps
theorem ctK4 : CtOk Tryd.prog G 4 eK4 := by
 intro args r h hp
 unfold eK4 at h
 split at h <;> cases h
 obtain ⟨h1, h2, rfl, hu⟩ := hp
 exact (sp4 _ _ _ h1 h2 hu).caps
theorem ctK5 : CtOk Tryd.prog G 5 eK5 := by
 intro args r h hp
 unfold eK5 at h
 split at h <;> cases h
 ·rename_i w h a n _ i e
  obtain ⟨⟨h1, h2, h3⟩, hg, he⟩ := hp
  generalize unC a = l at *
  subst h1 h2
  exact (sp5 w h i e l hg he).caps
 ·rename_i w h i e
  have := (sp5 w h i e [] (fun x hx => by simp at hx) hp).caps (args := [.agg [.int .i64 w, .int .i64 h, .imm (.vals []) 0 (some 0)], .int .i64 i, .int .u8 e])
  exact this.args fun w F xs hr => nil_args hr
theorem ct36 : CtOk Tryd.prog G 36 e36 := by
 intro args r h hp
 unfold e36 at h
 split at h <;> cases h
 exact fnP_spec hcm hmx T0ok ok36 rfl (ob_o36 _ _ _) ⟨rfl, rfl, rfl, trivial⟩
theorem TBKok : TabOk Tryd.prog G TBK := tabL_ok noCh_ok ⟨ctK3, ctK6, ctK7, ctK4, ctK5, ct14, ct35, ct36, ct18, trivial⟩
theorem wrap8 (n : Int) : 0 ≤ IntKind.u8.wrap n ∧ IntKind.u8.wrap n ≤ 255 := by
 have : IntKind.u8.wrap n = n % 256 := rfl
 rw [this]
 omega
theorem u8s_app {l : List Int} {x : Int} (h : u8s l) : u8s (l ++ [IntKind.u8.wrap x]) := by
 intro y hy
 rw [List.mem_append, List.mem_singleton] at hy
 rcases hy with hy | rfl
 ·exact h y hy
 ·exact wrap8 _
theorem ofK {W H : Int} {ks : List Int} (h1 : 0 ≤ W ∧ W ≤ 255) (h2 : 0 ≤ H ∧ H ≤ 255) (hu : u8s ks) : okA (flatC (ofL W H ks)) (ofL W H ks).length ∧ edg (unC (flatC (ofL W H ks))) := by
 have d1 := dim_ok h1
 have d2 := dim_ok h2
 have h4 : s4 (dim W) (dim H) := ⟨⟨d1.1, d1.2.1⟩, d2.1, d2.2.1⟩
 have hs := s4_s5 h4
 have hv := of_vP h1 h2 hu
 exact ⟨(okV_of hs hv).1, by rw [unC_flat]; exact vP_edg hv⟩
theorem exOk : (okA [AV.int IntKind.i64 0, AV.int IntKind.u8 1, AV.int IntKind.u8 1, AV.int IntKind.i64 0, AV.int IntKind.u8 1, AV.int IntKind.u8 2] 2 ∧ edg [(0, 1, 1), (0, 1, 2)]) ∧
  (okA [AV.int IntKind.i64 0, AV.int IntKind.u8 1, AV.int IntKind.u8 0, AV.int IntKind.i64 99, AV.int IntKind.u8 0, AV.int IntKind.u8 1] 2 ∧ edg [(0, 1, 0), (99, 0, 1)]) ∧
  (okA [AV.int IntKind.i64 2, AV.int IntKind.u8 0, AV.int IntKind.u8 1, AV.int IntKind.i64 0, AV.int IntKind.u8 1, AV.int IntKind.u8 1, AV.int IntKind.i64 99, AV.int IntKind.u8 0, AV.int IntKind.u8 1] 3 ∧ edg [(2, 0, 1), (0, 1, 1), (99, 0, 1)]) := by
 refine ⟨⟨⟨rfl, rfl, by decide⟩, ?_⟩, ⟨⟨rfl, rfl, by decide⟩, ?_⟩, ⟨rfl, rfl, by decide⟩, ?_⟩ <;>
  (intro x hx; simp only [List.mem_cons, List.not_mem_nil, or_false] at hx; rcases hx with rfl | rfl | rfl <;> decide)
set_option maxHeartbeats 1000000 in
theorem sp8 : SpecP Tryd.prog G 8 [] (.bool true) [] := by
 refine fnP_spec hcm hmx TBKok ok8 rfl ob_o8 ?_
 simp only [ltb_iff, ltb_no, inR_i64, len'_iff, iI, iL, true_and, and_true, List.length_append, List.length_cons, List.length_nil, Nat.zero_add]
 refine ⟨⟨0, rfl, by omega, by decide, by decide⟩, ?_⟩
 rintro ⟨k, n⟩ ⟨m, hm, h1, h2, h3⟩
 simp only at hm h2 h3 ⊢
 subst hm
 refine ⟨fun hlt => ?_, fun _ => ?_⟩
 ·have d4 : (m : Int).tdiv 4 = m / 4 := Int.tdiv_eq_ediv_of_nonneg (by omega)
  refine ⟨by rw [d4]; omega, ⟨0, rfl, by omega, h2, h3, rfl, rfl, fun x hx => by simp at hx, fun x hx => by simp at hx⟩, ?_⟩
  rintro ⟨i, q, x, y⟩ ⟨j, hj, j1, j2, j3, j4, j5, j6, j7⟩
  simp only at hj j2 j3 j4 j5 j6 j7 ⊢
  subst hj
  have e5 : q.tdiv 5 = q / 5 := Int.tdiv_eq_ediv_of_nonneg j2
  have e3 : q.tdiv 3 = q / 3 := Int.tdiv_eq_ediv_of_nonneg j2
  have em : (q * 31 + 7 * (j : Int) + 11).tmod 100003 = (q * 31 + 7 * (j : Int) + 11) % 100003 := Int.tmod_eq_emod_of_nonneg (by omega)
  rw [e5, e3, em]
  refine ⟨by omega, fun hl => ⟨by omega, by omega, by omega, by omega, by omega, by omega, by omega, by omega, ⟨j + 1, by omega, by omega, by omega, by omega, by omega, by omega, u8s_app j6, u8s_app j7⟩, by omega⟩, fun _ => ?_⟩
  have w1 := wrap8 m
  have w2 := wrap8 ((m : Int).tdiv 4)
  have w3 := wrap8 k
  have o := ofK w3 w1 j7
  exact ⟨⟨w1, w2, j6, wrap8 _, wrap8 _⟩, by omega, ⟨w1, w2, j6, wrap8 _, w1, w1, wrap8 _⟩, ⟨w1, w2, j6, w3, w1, j7, w1, wrap8 _⟩, ⟨w1, w2, j6⟩, ⟨w3.1, w3.2, w1.1, w1.2, j7⟩, ⟨o.1, o.2, by decide, by decide⟩, by omega, ⟨m + 1, by omega, by omega, j2, j3⟩, by omega⟩
 ·obtain ⟨⟨a1, a2⟩, ⟨b1, b2⟩, c1, c2⟩ := exOk
  exact ⟨by decide, by decide, ⟨a1, a2, by decide, by decide⟩, ⟨b1, b2, by decide, by decide⟩, c1, c2, by decide, by decide⟩
end Go.Proofs.YtfpcbimohikhmaaDoor.X
