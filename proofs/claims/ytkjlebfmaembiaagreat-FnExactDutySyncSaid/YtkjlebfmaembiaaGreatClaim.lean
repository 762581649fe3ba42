/- 'laws.FnExactDutySync' returns true, whatever it is called with. -/
import Derived.Test.YtkjlebfmaembiaaGreatE4
import Derived.JoinedOf
import Derived.Test.YtkjlebfmaembiaaGreatRows
set_option linter.unusedVariables false
namespace Go.Proofs.YtkjlebfmaembiaaGreat
open Go Go.Eng Go.Eng.R
theorem law_sum (xs : List V) (h : WtAll tab Tryz.f7.params.toList xs) : SumOk Tryz.prog tab 7 xs (.bool true, []) := by
  obtain ⟨p0, p1, rfl, h0, h1⟩ := WtAll.two (t := t_laws_Duty) (u := t_laws_State) h
  have e0 := h0.eta (ty := _) rfl
  have e1 := h1.eta (ty := _) rfl
  have w0 : W_Duty (n_laws_Duty p0) := (wt_laws_Duty h0 : W_Duty p0)
  have w1 : W_State (n_laws_State p1) := (wt_laws_State h1 : W_State p1)
  have hl : laws_FnExactDutySync (n_laws_Duty p0) (n_laws_State p1) = some true := law_DutySync w0 w1
  refine e7.ok _ _ ?_
  rw [e0, e1]
  show some ((laws_FnExactDutySync (n_laws_Duty p0) (n_laws_State p1)).isSome, (V.bool ((laws_FnExactDutySync (n_laws_Duty p0) (n_laws_State p1)).getD default), ([] : List V))) = _
  rw [hl]
  rfl
theorem own : ownKnob Tryz.prog.godebug = none := by kernel_rfl
set_option maxRecDepth 100000 in
theorem lifted (os : Os) (started : os.Started) (H : Type) (enc : TypeId × Value → H) :
    ReturnsInHanded {} Tryz.checked os 7 .any (Rows.fnExactDutySyncSpec.pre6 enc Tryz.prog Tryz.f7 Rows.fnExactDutySyncRow.domain false) (Rows.fnExactDutySyncSpec.post enc Tryz.prog Tryz.f7 false true false false) := by
  refine returnsInHanded_of_change (C := Tryz.checked) own started (by kernel_rfl) Tryz.func7
    (ChangeSpec.witness6 (enc := enc) (C := Tryz.checked) (s := Rows.fnExactDutySyncSpec) false ⟨#[], #[.agg #[.int .i64 0, .int .i64 0, .slice none 0 0], .agg #[.int .i64 0, .slice none 0 0, .slice none 0 0, .int .i64 0, .slice none 0 0, .slice none 0 0]], []⟩ 8 (by kernel_rfl) (by kernel_rfl) (by kernel_rfl) (by kernel_rfl)) ?_
  intro W base args ds gs before hval hW _ _
  refine law_contract (tab := tab) Go.Eng.R.base.tab (R := readable) (by kernel_rfl) (by kernel_rfl) (by kernel_rfl) (by kernel_rfl) (f := 7) (fn := Tryz.f7) rfl (by kernel_rfl) (tb := 4) rfl Tryz.underlying4 ?_ law_sum args ds gs before hval hW
  intro ds hd
  match ds, hd with
  | [d0, d1], _ => rfl
theorem x_holds : Rows.FnExactDutySyncSaid :=
  OpenClaim.holds_of_wide 7 Tryz.f7 rfl rfl rfl rfl rfl rfl rfl ⟨rfl, rfl, rfl, rfl, rfl⟩ rfl rfl rfl rfl rfl (by kernel_rfl) Tryz.func7 (by kernel_rfl)
    (of_decide_eq_true (by kernel_rfl)) (by unfold Func.isWrapper; first | (rw [if_pos (by decide +kernel)]; kernel_rfl) | (rw [if_neg (by decide +kernel)]; exact ⟨rfl, rfl⟩))
    (fun os started H enc _ => lifted os started H enc)
end Go.Proofs.YtkjlebfmaembiaaGreat
