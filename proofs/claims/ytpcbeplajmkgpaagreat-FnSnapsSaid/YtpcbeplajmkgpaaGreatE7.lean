/- An own evaluator of the program's form, proved sound, and what it says of this law's functions: part 7. -/
import Derived.Test.YtpcbeplajmkgpaaGreatE6
set_option linter.unusedVariables false
open Go Go.Eng Go.Proofs
namespace Go.Eng.R
theorem al_run:Zdl { cfgK tab 84 262 5 311 with sums:=ZeM Tryz.prog (cfgK tab 84 262 5 311) (ZgF Tryz.prog ilA) flA clA cnA 400 8 } (ZgF Tryz.prog ilA) (fun _=>none) 6000 Tryz.f34 []=some (.bool true,[]):=by kernel_rfl
theorem alSums:Zbk Tryz.prog tab (sumsK 84 262 5 311):=
 sumsK_ok (show tab 5=some ((tab 5).getD default) by kernel_rfl) (by kernel_rfl) (by kernel_rfl) cmp84 (Zcr Tryz.func84 (by kernel_rfl)) (show tab 311=some ((tab 311).getD default) by kernel_rfl) del262 Zo9 (Zcr Tryz.func262 (by kernel_rfl))
theorem alive34:SumOk Tryz.prog tab 34 [] (.bool true,[]):=
 run_sum (cfg:=cfgK tab 84 262 5 311) tab_ok alSums mixed il_ok fl_ok Tryz.func34 (by kernel_rfl) (by kernel_rfl) al_run
end Go.Eng.R
