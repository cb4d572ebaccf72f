/-
 Patterns among the arguments, as they are.
-/
import Derived.Test.YtfpcbimohikhmaaDoorRZ
import Derived.Test.YtfpcbimohikhmaaDoorD4Z
set_option maxRecDepth 1000000
set_option linter.unusedVariables false
namespace Go.Proofs.YtfpcbimohikhmaaDoor.X
open Go Go.Ab Go.ChangeShapes Go.WideShapes Go.ChangeAt Go.RowKit

def shCr : Sh := .st [.int .i64, .int .u8, .int .u8]
def shP5 : Sh := .st [.st [.int .i64, .int .i64], .sl shCr]
theorem shp30 : shp Tryd.prog 100 30 = some shP5 := by kernel_rfl
theorem conf_crs {H : Type} : ∀ {es : List (DataW H)}, (∀ x ∈ es, Conf shCr x) → ∃ l : List Cr, l.length = es.length ∧ es.flatMap (flat noHd shCr) = flatC l ∧ edg l
 | [], _ => ⟨[], rfl, rfl, fun x hx => by simp at hx⟩
 | d :: es, h => by
  obtain ⟨l, h1, h2, h3⟩ := conf_crs (es := es) fun x hx => h x (by simp [hx])
  obtain ⟨ds, e0, d1, r1, e1, ⟨c, e2, h4⟩, d2, r2, e3, ⟨e, e4, h5⟩, d3, r3, e5, ⟨k, e6, h6⟩, e7⟩ := h d (by simp)
  subst e7 e6 e5 e4 e3 e2 e1 e0
  refine ⟨(c, e, k) :: l, by simp [h1], ?_, fun x hx => ?_⟩
  ·rw [List.flatMap_cons, h2]; rfl
  ·rcases List.mem_cons.1 hx with rfl | hx
   ·exact wf_u8 h5
   ·exact h3 x hx
theorem conf_P5 {H : Type} {d : DataW H} (h : Conf shP5 d) : ∃ w h l, argV noHd shP5 d = patV w h l ∧ edg l := by
 obtain ⟨ds, rfl, d1, r1, rfl, ⟨es, rfl, d2, r2, rfl, ⟨w, rfl, h1⟩, d3, r3, rfl, ⟨h, rfl, h2⟩, rfl⟩, d4, r4, rfl, h3, rfl⟩ := h
 rcases h3 with rfl | ⟨es, sp, rfl, _, h3⟩
 ·exact ⟨w, h, [], rfl, fun x hx => by simp at hx⟩
 ·obtain ⟨l, l1, l2, l3⟩ := conf_crs h3
  refine ⟨w, h, l, ?_, l3⟩
  have : flat noHd (.sl shCr) (DataW.slice es sp) = [.imm (.vals (flatC l)) l.length none] := by
   rw [← l2, l1]; rfl
  show AV.agg ([AV.int .i64 w, AV.int .i64 h] ++ (flat noHd (.sl shCr) (DataW.slice es sp) ++ [])) = _
  rw [this]; rfl
end Go.Proofs.YtfpcbimohikhmaaDoor.X
