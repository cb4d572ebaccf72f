/- An abstract reading of the program: what its operations do to what is known of memory. Part 8 of 8. -/
import Derived.Test.YtmnaghfndigfkaaDoorAb7
import Derived.Test.YtmnaghfndigfkaaDoorAb6
import Derived.Lib.Repeat
import Derived.Below

/-
 strings.Repeat, by the contract of the library's shelf, as a contract here.
-/
set_option linter.unusedVariables false
namespace Go.Ab
open Go Go.RowKit

end Go.Ab
