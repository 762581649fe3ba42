/- An own evaluator of the program's form, proved sound, and what it says of this law's functions: part 7. -/
import Derived.Test.YtjhdhgbboomecaaGreatE6
set_option linter.unusedVariables false
open Go Go.Eng Go.Proofs
namespace Go.Eng.R
theorem al_run : Zc8 { cfgK tab 57 135 5 176 with sums := ZeY Tryz.prog (cfgK tab 57 135 5 176) (ZgT Tryz.prog ilA) flA clA cnA 400 8 } (ZgT Tryz.prog ilA) (fun _ => none) 6000 Tryz.f11 [] = some (.bool true, []) := by kernel_rfl
theorem alSums : Zbh Tryz.prog tab (sumsK 57 135 5 176) :=
  sumsK_ok (show tab 5 = some ((tab 5).getD default) by kernel_rfl) (by kernel_rfl) (by kernel_rfl) cmp57 (Zcj Tryz.func57 (by kernel_rfl)) (show tab 176 = some ((tab 176).getD default) by kernel_rfl) del135 Zpg (Zcj Tryz.func135 (by kernel_rfl))
theorem alive11 : SumOk Tryz.prog tab 11 [] (.bool true, []) :=
  run_sum (cfg := cfgK tab 57 135 5 176) tab_ok alSums mixed il_ok fl_ok Tryz.func11 (by kernel_rfl) (by kernel_rfl) al_run
end Go.Eng.R
