/-
 The chapter's examples hold (the function is run by the kernel).
-/
import Derived.Test.YtfpcbimohikhmaaDoorC6Z
import Derived.Test.YtfpcbimohikhmaaDoorAb4
import Derived.KernelRfl
set_option maxRecDepth 1000000
set_option linter.unusedVariables false
namespace Go.Proofs.YtfpcbimohikhmaaDoor.X
open Go Go.Ab
theorem nil_cells {w : World} {F : Nat → Prop} {a b : AV} : ∀ {xs : List Value}, RelIs w F [a, b, .nils] xs → RelIs w F [a, b, .imm (.vals []) 0 (some 0)] xs
 | _, .cons _ _ _ _ h1 (.cons _ _ _ _ h2 (.cons _ _ _ _ h3 h4)) => .cons _ _ _ _ h1 (.cons _ _ _ _ h2 (.cons _ _ _ _ (RelI.nil_imm rfl h3) h4))
theorem nil_args {w : World} {F : Nat → Prop} {a b : AV} {l : List AV} : ∀ {xs : List Value}, RelIs w F (.agg [a, b, .nils] :: l) xs → RelIs w F (.agg [a, b, .imm (.vals []) 0 (some 0)] :: l) xs
 | _, .cons _ _ _ _ (.agg _ x h) h2 => .cons _ _ _ _ (.agg _ x (nil_cells h)) h2
theorem me_set : SpecP Tryd.prog G 15 [.agg [.int .i64 2, .int .i64 1, .nils], .int .i64 7, .int .u8 0, .int .u8 1] (.tup [.agg [.int .i64 2, .int .i64 1, .imm (.vals [.int .i64 1, .int .u8 0, .int .u8 1]) 1 (some 1)], .int .i64 0]) [] := by
 have h := (sp15 2 1 [] 7 0 1 (by decide) (fun x hx => by simp at hx) (by decide)).caps (args := [.agg [.int .i64 2, .int .i64 1, .imm (.vals []) 0 (some 0)], .int .i64 7, .int .u8 0, .int .u8 1])
 have e : (AV.tup [patI (seE 2 1 [] 7 0 1 == 0) 2 1 (seL 2 1 [] 7 0 1), .int .i64 (seE 2 1 [] 7 0 1)]) = (.tup [.agg [.int .i64 2, .int .i64 1, .imm (.vals [.int .i64 1, .int .u8 0, .int .u8 1]) 1 (some 1)], .int .i64 0]) := by kernel_rfl
 rw [e] at h
 exact h.args fun w F xs hr => nil_args hr
def mems : List Mem := [⟨15, [.agg [.int .i64 2, .int .i64 1, .nils], .int .i64 7, .int .u8 0, .int .u8 1], .tup [.agg [.int .i64 2, .int .i64 1, .imm (.vals [.int .i64 1, .int .u8 0, .int .u8 1]) 1 (some 1)], .int .i64 0], []⟩]
theorem memsOk : MemOk Tryd.prog G mems := ⟨me_set, trivial⟩
theorem meOk : TBok Tryd.prog G (memoT (memF mems)) := memoT_ok (memF_ok memsOk)
theorem ev18 : evM G (aget xpl) (fun _ _ => none) (memoT (memF mems)) 100000 1000 1 [] (.fn 18 [] []) [] = some ⟨.bool true, [], [], []⟩ := by kernel_rfl
theorem natNo : NatOk Tryd.prog (fun _ _ => none) := fun _ _ _ h => by cases h
theorem sp18 : SpecP Tryd.prog G 18 [] (.bool true) [] := specP_of_evM hcm hmx xpOk natNo meOk ev18 rfl
def e18 : CtE
 | [] => some ⟨.bool true, [], none⟩
 | _ => none
theorem ct18 : CtOk Tryd.prog G 18 e18 := by
 intro args r h hp
 unfold e18 at h
 split at h <;> cases h
 exact sp18
end Go.Proofs.YtfpcbimohikhmaaDoor.X
