/- An own evaluator of the program's form, proved sound, and what it says of this law's functions: part 7. -/
import Derived.Test.YtoiikojihaddaaaGreatE6
set_option linter.unusedVariables false
open Go Go.Eng Go.Proofs
namespace Go.Eng.R
theorem al_run : ZcR { cfgK tab 206 191 5 231 with sums := runSums Tryz.prog (cfgK tab 206 191 5 231) (fnsOf Tryz.prog ilA) flA clA cnA 400 8 } (fnsOf Tryz.prog ilA) (fun _ => none) 6000 Tryz.f12 [] = some (.bool true, []) := by kernel_rfl
theorem alSums : Za6 Tryz.prog tab (sumsK 206 191 5 231) :=
  sumsK_ok (show tab 5 = some ((tab 5).getD default) by kernel_rfl) (by kernel_rfl) (by kernel_rfl) cmp206 (ZdL Tryz.func206 (by kernel_rfl)) (show tab 231 = some ((tab 231).getD default) by kernel_rfl) del191 delSame191 (ZdL Tryz.func191 (by kernel_rfl))
theorem alive12 : SumOk Tryz.prog tab 12 [] (.bool true, []) :=
  run_sum (cfg := cfgK tab 206 191 5 231) tab_ok alSums mixed il_ok fl_ok Tryz.func12 (by kernel_rfl) (by kernel_rfl) al_run
end Go.Eng.R
