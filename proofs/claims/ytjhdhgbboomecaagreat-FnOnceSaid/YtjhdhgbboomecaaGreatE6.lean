/- An own evaluator of the program's form, proved sound, and what it says of this law's functions: part 6. -/
import Derived.Test.YtjhdhgbboomecaaGreatE5
set_option linter.unusedVariables false
open Go Go.Eng Go.Proofs
namespace Go.Eng.R
theorem fl_ok : fnsB Tryz.prog flA = true := by kernel_rfl
end Go.Eng.R
