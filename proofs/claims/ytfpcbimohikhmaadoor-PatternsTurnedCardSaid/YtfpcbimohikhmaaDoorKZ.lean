/-
 Mirror images of units of small sheets, by the kernel.
-/
import Derived.Test.YtfpcbimohikhmaaDoorD6Z
import Derived.Test.YtfpcbimohikhmaaDoorPAZ
import Derived.KernelRfl
set_option maxRecDepth 1000000
set_option linter.unusedVariables false
namespace Go.Proofs.YtfpcbimohikhmaaDoor.X
open Go Go.Ab

/-- The mirror image of a unit. -/
def mirU (w h c : Int) : Int := 3 * min (mId w (c / 3)) (nbI w h (mId w (c / 3)) (mE (c % 3))) + mE (c % 3)
def mir1 (w h a : Int) : Bool := (hasB w h (mirU w h a / 3) && ltb (mirU w h a / 3) (nbI w h (mirU w h a / 3) (mirU w h a % 3))) && (mirU w h (mirU w h a) == a)
def mir2 (w h : Int) (us : List Int) : Bool := us.all fun a => mir1 w h a && us.all fun b => cond (mtU w a b) (beqI b (mirU w h a)) (!beqI b (mirU w h a))
theorem k11 : mir2 1 1 (units 1 1) = true := by kernel_rfl
theorem k12 : mir2 1 2 (units 1 2) = true := by kernel_rfl
theorem k13 : mir2 1 3 (units 1 3) = true := by kernel_rfl
theorem k14 : mir2 1 4 (units 1 4) = true := by kernel_rfl
theorem k21 : mir2 2 1 (units 2 1) = true := by kernel_rfl
theorem k22 : mir2 2 2 (units 2 2) = true := by kernel_rfl
theorem k23 : mir2 2 3 (units 2 3) = true := by kernel_rfl
theorem k24 : mir2 2 4 (units 2 4) = true := by kernel_rfl
theorem k31 : mir2 3 1 (units 3 1) = true := by kernel_rfl
theorem k32 : mir2 3 2 (units 3 2) = true := by kernel_rfl
theorem k33 : mir2 3 3 (units 3 3) = true := by kernel_rfl
theorem k34 : mir2 3 4 (units 3 4) = true := by kernel_rfl
theorem k41 : mir2 4 1 (units 4 1) = true := by kernel_rfl
theorem k42 : mir2 4 2 (units 4 2) = true := by kernel_rfl
theorem k43 : mir2 4 3 (units 4 3) = true := by kernel_rfl
theorem k44 : mir2 4 4 (units 4 4) = true := by kernel_rfl
theorem k_all {w h : Int} (hw : 1 ≤ w ∧ w ≤ 4) (hh : 1 ≤ h ∧ h ≤ 4) : mir2 w h (units w h) = true := by
 obtain rfl | rfl | rfl | rfl : w = 1 ∨ w = 2 ∨ w = 3 ∨ w = 4 := by omega
 ·obtain rfl | rfl | rfl | rfl : h = 1 ∨ h = 2 ∨ h = 3 ∨ h = 4 := by omega
  ·exact k11
  ·exact k12
  ·exact k13
  ·exact k14
 ·obtain rfl | rfl | rfl | rfl : h = 1 ∨ h = 2 ∨ h = 3 ∨ h = 4 := by omega
  ·exact k21
  ·exact k22
  ·exact k23
  ·exact k24
 ·obtain rfl | rfl | rfl | rfl : h = 1 ∨ h = 2 ∨ h = 3 ∨ h = 4 := by omega
  ·exact k31
  ·exact k32
  ·exact k33
  ·exact k34
 ·obtain rfl | rfl | rfl | rfl : h = 1 ∨ h = 2 ∨ h = 3 ∨ h = 4 := by omega
  ·exact k41
  ·exact k42
  ·exact k43
  ·exact k44
end Go.Proofs.YtfpcbimohikhmaaDoor.X
