/-
 The chapter's examples hold (the functions are run by the kernel; folding too).
-/
import Derived.Test.YthiammkiobbclaaGreatDoorLMZ
import Derived.Test.YthiammkiobbclaaGreatDoorD11Z
set_option maxRecDepth 1000000
set_option linter.unusedVariables false
namespace Go.Proofs.YthiammkiobbclaaGreatDoor.X
open Go Go.Ab

def fI (a k:List Int):AV:=.agg [immL .i64 a,immL .u8 k]
theorem ts (a k:List Int)(hz:a.length<1000000∧k.length<1000000){v:AV}(hv:(AV.tup [immL .i64 (fstL a k),.int .i64 (fstE a k)])=v):SpecP Tryz.prog G 17 [fI a k] v []:=by
 exact mk_s a k _ _ _ _ rfl rfl hz.1 hz.2 (by rw[← hv];rfl)
theorem tr (a k:List Int)(hz:a.length<1000000∧k.length<1000000){v:AV}(hv:(AV.tup [immL .i64 (bLs (altS a k) ((raysL a).take a.length)),.int .i64 (ofE a k)])=v):SpecP Tryz.prog G 26 [fI a k] v []:=by
 exact mk_r a k _ _ _ _ rfl rfl hz.1 hz.2 (by rw[← hv];rfl)
end Go.Proofs.YthiammkiobbclaaGreatDoor.X
