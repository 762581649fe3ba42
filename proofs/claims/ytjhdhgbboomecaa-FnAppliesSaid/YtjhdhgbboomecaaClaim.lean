/- 'laws.FnApplies' returns true, whatever it is called with. -/
import Derived.Test.YtjhdhgbboomecaaE5
import Derived.JoinedOf
import Derived.Test.YtjhdhgbboomecaaRows
set_option linter.unusedVariables false
namespace Go.Proofs.Ytjhdhgbboomecaa
open Go Go.Eng Go.Eng.R
theorem law_sum (xs : List V) (h : WtAll tab Try.f3.params.toList xs) : SumOk Try.prog tab 3 xs (.bool true, []) := by
  obtain ⟨p0, rfl, h0⟩ := WtAll.one (t := t_sl_byte) h
  have e0 := h0.eta (ty := _) rfl
  have hl : ZbW (gl p0 0) = some true := law_Applies (wt_sl (h0.cell 0 rfl) fun _ => wt_byte)
  refine e3.ok _ _ ?_
  rw [e0]
  show some ((ZbW (gl p0 0)).isSome, (V.bool ((ZbW (gl p0 0)).getD default), ([] : List V))) = _
  rw [hl]
  rfl
theorem own : ownKnob Try.prog.godebug = none := by kernel_rfl
set_option maxRecDepth 100000 in
theorem lifted (os : Os) (started : os.Started) (H : Type) (enc : TypeId × Value → H) :
    ReturnsInHanded {} Try.checked os 3 .any (Rows.fnAppliesSpec.pre6 enc Try.prog Try.f3 Rows.fnAppliesRow.domain false) (Rows.fnAppliesSpec.post enc Try.prog Try.f3 false true false false) := by
  refine returnsInHanded_of_change (C := Try.checked) own started (by kernel_rfl) Try.func3
    (ChangeSpec.witness6 (enc := enc) (C := Try.checked) (s := Rows.fnAppliesSpec) false ⟨#[], #[.slice none 0 0], []⟩ 8 (by kernel_rfl) (by kernel_rfl) (by kernel_rfl) (by kernel_rfl)) ?_
  intro W base args ds gs before hval hW _ _
  refine law_contract (tab := tab) Go.Eng.R.base.tab (R := readable) (by kernel_rfl) (by kernel_rfl) (by kernel_rfl) (by kernel_rfl) (f := 3) (fn := Try.f3) rfl (by kernel_rfl) (tb := 4) rfl Try.underlying4 ?_ law_sum args ds gs before hval hW
  intro ds hd
  match ds, hd with
  | [d0], _ => rfl
theorem x_holds : Rows.FnAppliesSaid :=
  OpenClaim.holds_of_wide 3 Try.f3 rfl rfl rfl rfl rfl rfl rfl ⟨rfl, rfl, rfl, rfl, rfl⟩ rfl rfl rfl rfl rfl (by kernel_rfl) Try.func3 (by kernel_rfl)
    (of_decide_eq_true (by kernel_rfl)) (by unfold Func.isWrapper; first | (rw [if_pos (by decide +kernel)]; kernel_rfl) | (rw [if_neg (by decide +kernel)]; exact ⟨rfl, rfl⟩))
    (fun os started H enc _ => lifted os started H enc)
end Go.Proofs.Ytjhdhgbboomecaa
