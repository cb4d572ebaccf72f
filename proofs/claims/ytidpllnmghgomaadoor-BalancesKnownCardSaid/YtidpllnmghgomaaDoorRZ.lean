/-
  What the rows of this seat share: the variables that are laid, fans among the arguments.
-/
import Derived.Test.YtidpllnmghgomaaDoorCards
import Derived.Test.YtidpllnmghgomaaDoorTie
import Derived.Test.YtidpllnmghgomaaDoorDZ
import Derived.Test.YtidpllnmghgomaaDoorAb6
import Derived.WalkKit
import Derived.ProofKit
import Derived.OpenShut
import Derived.Deep.DeepHandedRow
import Derived.Lib.SmallJoins
import Derived.LaidMore
set_option maxRecDepth 1000000
set_option linter.unusedVariables false
namespace Go.Proofs.YtidpllnmghgomaaDoor.X
open Go Go.Ab Go.ChangeShapes Go.WideShapes Go.ChangeAt Go.RowKit

theorem own : ownKnob Tryd.prog.godebug = none := by kernel_rfl
theorem laidOut : laidOutB Tryd.prog = true := by kernel_rfl
def laidL : List (String × DataW Unit) := [("unicode/utf8.acceptRanges", Rows.laid_unicode_utf8_acceptRanges), ("crimp/balances.lacks", Rows.laid_crimp_balances_lacks), ("unicode/utf8.first", Rows.laid_unicode_utf8_first)]
def laidP : List (String × DataW Unit) := [("unicode/utf8.acceptRanges", Rows.laid_unicode_utf8_acceptRanges), ("unicode/utf8.first", Rows.laid_unicode_utf8_first)]
theorem laid_eq (W : World) : laidMetH Tryd.prog laidL W = (laidMet Tryd.prog laidP W ∧ handlesMet Tryd.prog [("crimp/balances.lacks", Rows.laid_crimp_balances_lacks)] W) := by kernel_rfl
def fnNames : List (List UInt8 × Nat) := [("crimp/balances.lacks$1".toUTF8.data.toList, 82), ("crimp/balances.odd".toUTF8.data.toList, 30), ("crimp/balances.uneven".toUTF8.data.toList, 31), ("crimp/balances.unbalanced".toUTF8.data.toList, 83), ("crimp/balances.pointed".toUTF8.data.toList, 84)]
/-- What the rows' lists give. -/
theorem globs {W : World} (h : laidMetH Tryd.prog laidL W) : GlobOk G (fun b => b < W.heap.size) W := by
  obtain ⟨g0, t, cs, fuel, p, hg, ht, hvar, htrod⟩ := laidMetH.funcs h (n := "crimp/balances.lacks") (d := .agg [.iface "func" (.lit (.string [99, 114, 105, 109, 112, 47, 98, 97, 108, 97, 110, 99, 101, 115, 46, 108, 97, 99, 107, 115, 36, 49])), .iface "func" (.lit (.string [99, 114, 105, 109, 112, 47, 98, 97, 108, 97, 110, 99, 101, 115, 46, 111, 100, 100])), .iface "func" (.lit (.string [99, 114, 105, 109, 112, 47, 98, 97, 108, 97, 110, 99, 101, 115, 46, 117, 110, 101, 118, 101, 110])), .iface "func" (.lit (.string [99, 114, 105, 109, 112, 47, 98, 97, 108, 97, 110, 99, 101, 115, 46, 117, 110, 98, 97, 108, 97, 110, 99, 101, 100])), .iface "func" (.lit (.string [99, 114, 105, 109, 112, 47, 98, 97, 108, 97, 110, 99, 101, 115, 46, 112, 111, 105, 110, 116, 101, 100]))]) (by simp [laidL, Rows.laid_crimp_balances_lacks])
  rw [laid_eq] at h
  obtain ⟨⟨ps, hv, _⟩, _⟩ := h
  obtain ⟨a3, q3, hv⟩ := laid_one (c := .ints .u8 [128, 191, 160, 191, 128, 159, 144, 191, 128, 143, 0, 0, 0, 0, 0, 0, 0, 0, 0, 0, 0, 0, 0, 0, 0, 0, 0, 0, 0, 0, 0, 0]) (g := 3) (n := 100) (t := 93) (s := .st (List.replicate 16 (.st [.int .u8, .int .u8]))) (by kernel_rfl) (by kernel_rfl) (by kernel_rfl) hv (cont_ints (by kernel_rfl))
  obtain ⟨a2, q2, hv⟩ := laid_one (c := .ints .u8 (Pinned.utf8FirstZ.map Int.ofNat)) (g := 2) (n := 100) (t := 90) (s := .st (List.replicate 256 (.int .u8))) (by kernel_rfl) (by kernel_rfl) (by kernel_rfl) hv (cont_ints (by kernel_rfl))
  obtain rfl : 0 = g0 := Option.some.inj ((show Tryd.prog.globalNamed "crimp/balances.lacks" = some 0 by kernel_rfl).symm.trans hg)
  obtain rfl : 67 = t := Option.some.inj ((show (Tryd.prog.globals[0]?).map (·.type) = some 67 by kernel_rfl).symm.trans ht)
  have a0 : GlobAt W 0 (.vals [.fn 82 [] [], .fn 30 [] [], .fn 31 [] [], .fn 83 [] [], .fn 84 [] []]) :=
    glob_rel (n := 100) (s := .st [.fn, .fn, .fn, .fn, .fn]) (hd := nameHd fnNames) (by kernel_rfl) hg hvar (nameHd_ok (by
      intro p hp
      simp only [fnNames, List.mem_cons, List.not_mem_nil, or_false] at hp
      rcases hp with rfl | rfl | rfl | rfl | rfl
      · exact ⟨by decide +kernel, _, rfl, by kernel_rfl⟩
      · exact ⟨by decide +kernel, _, rfl, by kernel_rfl⟩
      · exact ⟨by decide +kernel, _, rfl, by kernel_rfl⟩
      · exact ⟨by decide +kernel, _, rfl, by kernel_rfl⟩
      · exact ⟨by decide +kernel, _, rfl, by kernel_rfl⟩)) htrod (by rw [show flat (nameHd fnNames) (.st [.fn, .fn, .fn, .fn, .fn]) _ = [AV.fn 82 [] [], .fn 30 [] [], .fn 31 [] [], .fn 83 [] [], .fn 84 [] []] by kernel_rfl]; exact cont_vals)
  intro g c hg
  change gl g = some c at hg
  unfold gl at hg
  split at hg
  · cases hg; exact a0
  · cases hg; exact a2
  · cases hg; exact a3
  · cases hg
/-- A world that holds the variables. -/
def putTab (k : IntKind) (zs : List Int) : Obj → Obj
  | .cells _ t frozen => .cells (zs.map fun z => Value.int k z).toArray t frozen
  | o => o
noncomputable def laidWorld (os : Os) : World :=
  { World.doorLaid Tryd.prog 4000 os with heap := (World.doorLaid Tryd.prog 4000 os).heap.modify 2 (putTab .u8 (Pinned.utf8FirstZ.map Int.ofNat)) }
theorem laid_met0 (os : Os) : laidMetH Tryd.prog laidL ((laidWorld os).forCall (fun _ _ => 0) ⟨#[], #[], []⟩).memory := laidMetH_of_parts3 (fuel := 8) (laidMet_of_run' 8 (by kernel_rfl) (by kernel_rfl)) (by kernel_rfl) (by kernel_rfl)
/-- A fan as plain data. -/
def shF : Sh := .st [.int .u8, .int .u8, .sl (.int .u8)]
theorem shp24 : shp Tryd.prog 100 24 = some shF := by kernel_rfl
theorem conf_F {H : Type} {d : DataW H} (h : Conf shF d) : ∃ c l ks, argV noHd shF d = fV c l ks ∧ okK ks := by
  obtain ⟨ds, rfl, d1, r1, rfl, ⟨c, rfl, _⟩, d2, r2, rfl, ⟨l, rfl, _⟩, d3, r3, rfl, h3, rfl⟩ := h
  obtain ⟨ks, e, hk⟩ := conf_ints h3
  refine ⟨c, l, ks, ?_, fun x hx => wf_u8 (hk x hx)⟩
  show AV.agg ([AV.int .u8 c] ++ ([AV.int .u8 l] ++ (flat noHd (.sl (.int .u8)) d3 ++ []))) = _
  rw [e]; rfl
end Go.Proofs.YtidpllnmghgomaaDoor.X
