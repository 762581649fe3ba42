/- An own evaluator of the program's form, proved sound, and what it says of this law's functions: part 5. -/
import Derived.Test.YtpcbeplajmkgpaaGreatE4
set_option linter.unusedVariables false
open Go Go.Eng Go.Proofs
namespace Go.Eng.R
theorem il_ok:fnsB Tryz.prog ilA=true:=by kernel_rfl
end Go.Eng.R
