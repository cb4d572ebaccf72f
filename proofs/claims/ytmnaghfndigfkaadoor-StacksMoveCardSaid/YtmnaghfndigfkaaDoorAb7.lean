/- An abstract reading of the program: what its operations do to what is known of memory. Part 7 of 8. -/
import Derived.Test.YtmnaghfndigfkaaDoorAb6
import Derived.Shelf.SlSortCmp.NoneTotal

/-
 slices.SortFunc over structs of numbers, by the contract of the library's shelf, as a contract here.
-/
set_option linter.unusedVariables false
namespace Go.Ab
open Go Go.RowKit

structure RowS (α:Type) where
 k:Nat
 row:α→List (IntKind×Int)
 len:∀x,(row x).length=k
def RowS.av {α:Type}(R:RowS α)(x:α):List AV:=(R.row x).map fun p=>AV.int p.1 p.2
def RowS.vl {α:Type}(R:RowS α)(x:α):List Value:=(R.row x).map fun p=>Value.int p.1 p.2
theorem flatMap_row {α β:Type}{f:α→List β}{k:Nat}(hk:0<k)(hf:∀x,(f x).length=k):∀(l:List α) (j:Nat),(l.flatMap f)[j]? =(l[j/k]?).bind fun x=>(f x)[j%k]?
 |[],j=>by simp
 |x::l,j=>by
  rw[List.flatMap_cons]
  by_cases h:j<k
  ·rw[List.getElem?_append_left (by rw[hf];exact h),Nat.div_eq_of_lt h,Nat.mod_eq_of_lt h];rfl
  ·have h':k≤j:=Nat.le_of_not_lt h
   rw[List.getElem?_append_right (by rw[hf];exact h'),hf,flatMap_row hk hf l (j-k),Nat.div_eq_sub_div hk h',Nat.mod_eq_sub_mod h']
   rfl
section
variable {α:Type}(R:RowS α)
end
end Go.Ab
