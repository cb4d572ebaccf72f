/-
 The law on drawings.
-/
import Derived.Test.YtmnaghfndigfkaaDoorPTZ
import Derived.Test.YtmnaghfndigfkaaDoorOLZ
set_option maxRecDepth 1000000
set_option linter.unusedVariables false
set_option linter.unusedSimpArgs false
namespace Go.Proofs.YtmnaghfndigfkaaDoor.X
open Go Go.Ab

theorem ct49x {s1 s2 s3 : List UInt8} {e1 e2 e3 : Int} : CtOk Tryd.prog G 49 (e49x s1 s2 s3 e1 e2 e3) := by
 intro args r h hp
 unfold e49x at h
 split at h
 ·cases h
  exact ct49 _ _ rfl hp
 ·cases h
  obtain ⟨hA, h1, h2, h3⟩ := hp
  rename_i a n
  have := ct49 [.imm (.vals a) n (some 3)] _ rfl hA
  rw [h1] at this
  show SpecP Tryd.prog G 49 _ (.tup [.str s3, .int .i64 e3]) []
  rw [← h2, ← h3]
  exact this
 ·rw [cond_eq_ite] at h
  rename_i k x a n c _
  split at h
  ·cases h
   obtain ⟨hA, h1, h2, h3⟩ := hp
   have := ct49 [.imm (.vals (.int k x :: a)) n (some c)] _ rfl hA
   rw [h1] at this
   show SpecP Tryd.prog G 49 _ (.tup [.str s2, .int .i64 e2]) []
   rw [← h2, ← h3]
   exact this
  ·cases h
   obtain ⟨hA, h1, h2, h3⟩ := hp
   have := ct49 [.imm (.vals (.int k x :: a)) n (some c)] _ rfl hA
   rw [h1] at this
   show SpecP Tryd.prog G 49 _ (.tup [.str s1, .int .i64 e1]) []
   rw [← h2, ← h3]
   exact this
 ·cases h
theorem TL11ok {s1 s2 s3 : List UInt8} {e1 e2 e3 : Int} : TabOk Tryd.prog G (TL11 s1 s2 s3 e1 e2 e3) := tabL_ok noCh_ok ⟨ct31, ct48, ct49x, ct50, ct51, ct37, trivial⟩
theorem tx_len (l : List Cl) (h : (chkI l == 0 && (decide (0 < l.length) && !bigB l)) = true) (hW : 0 ≤ rgtI l - lftI l) (hH : 0 ≤ higI l - lowI l) : ((txV l).length : Int) = (higI l - lowI l + 1) * (4 * (rgtI l - lftI l + 1) + 1) := by
 have hR := row_len l hW
 unfold txV
 rw [h, cond_true]
 unfold bytesI
 rw [List.length_map, txF_len]
 unfold bgS
 rw [Lib.repeatL_length, Int.natCast_mul, hR, Int.toNat_of_nonneg (by omega)]
theorem okA_far : okA [.int .i64 (-4096), .int .i64 0, .int .u8 0, .int .i64 4096, .int .i64 0, .int .u8 0] 2 := by
 refine ⟨⟨rfl, rfl, by decide⟩, ?_⟩
 show okQ farL
 unfold okQ farL; simp
theorem okA_hgh : okA [.int .i64 0, .int .i64 (-4096), .int .u8 0, .int .i64 0, .int .i64 4096, .int .u8 0] 2 := by
 refine ⟨⟨rfl, rfl, by decide⟩, ?_⟩
 show okQ hghL
 unfold okQ hghL; simp
theorem okA_all : okA [.int .i64 0, .int .i64 (-4096), .int .u8 0, .int .i64 (-4096), .int .i64 0, .int .u8 0, .int .i64 4096, .int .i64 0, .int .u8 0] 3 := by
 refine ⟨⟨rfl, rfl, by decide⟩, ?_⟩
 show okQ allL
 unfold okQ allL; simp
theorem sp11 (l : List Cl) (h1 : rawP l) : SpecP Tryd.prog G 11 [rwS l] (.bool true) [] := by
 refine fnP_spec hcm hmx (TL11ok (s1 := txV farL) (s2 := txV hghL) (s3 := txV allL) (e1 := txE farL) (e2 := txE hghL) (e3 := txE allL)) ok11 rfl (ob_o11 l _ _ _ _ _ _) ?_
 simp only [unS_flat, and_true, true_and]
 have a := okM_sOf h1
 generalize sOf l = x at *
 have hS := okM_S a (by decide)
 have hL : okL (flatK x) x.length := okL_flat (by have := a.2.2; omega)
 have hv : ∀ c ∈ x, vldC c = true ∧ 0 ≤ c.2.2 := a.2.1
 obtain ⟨t1, t2, t3⟩ := text_ok a.1 hv hS.2
 refine ⟨h1, ?_⟩
 rintro ⟨a', n'⟩ ⟨f1, f2⟩
 simp only at f1 f2
 subst f1 f2
 simp only [unK_flat, and_true, true_and, leb_iff, leb_no, beq_iff_eq]
 refine ⟨⟨hL, by rw [unK_flat]; exact hS.1⟩, ⟨⟨hL, t1⟩, fun h => ⟨⟨hL, t1, h⟩, t2 h⟩, fun h => t3 h⟩, ?_⟩
 rintro ⟨s, e⟩ ⟨g1, g2⟩
 simp only at g1 g2
 subst g1 g2
 refine ⟨⟨okA_far, rfl, rfl, rfl⟩, ⟨okA_hgh, rfl, rfl, rfl⟩, ⟨okA_all, rfl, rfl, rfl⟩, rfl, rfl, by decide, ?_, by decide, ?_, by decide⟩
 ·exact tx_len farL (by decide) (by decide) (by decide)
 ·exact tx_len hghL (by decide) (by decide) (by decide)
end Go.Proofs.YtmnaghfndigfkaaDoor.X
