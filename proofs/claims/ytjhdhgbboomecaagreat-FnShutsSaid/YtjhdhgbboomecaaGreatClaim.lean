/- 'laws.FnShuts' returns true, whatever it is called with. -/
import Derived.Test.YtjhdhgbboomecaaGreatE9
import Derived.JoinedOf
import Derived.Test.YtjhdhgbboomecaaGreatRows
set_option linter.unusedVariables false
namespace Go.Proofs.YtjhdhgbboomecaaGreat
open Go Go.Eng Go.Eng.R
theorem law_sum (xs : List V) (h : WtAll tab Tryz.f7.params.toList xs) : SumOk Tryz.prog tab 7 xs (.bool true, []) := by
  obtain ⟨p0, rfl, h0⟩ := WtAll.one (t := ZfX) h
  have e0 := h0.eta (ty := _) rfl
  have hl : Zdg (gl p0 0) = some true := Zqc (Zk3 (h0.cell 0 rfl) fun _ => Zhu)
  refine e7.ok _ _ ?_
  rw [e0]
  show some ((Zdg (gl p0 0)).isSome, (V.bool ((Zdg (gl p0 0)).getD default), ([] : List V))) = _
  rw [hl]
  rfl
theorem own : ownKnob Tryz.prog.godebug = none := by kernel_rfl
set_option maxRecDepth 100000 in
theorem lifted (os : Os) (started : os.Started) (H : Type) (enc : TypeId × Value → H) :
    ReturnsInHanded {} Tryz.checked os 7 .any (Rows.fnShutsSpec.pre6 enc Tryz.prog Tryz.f7 Rows.fnShutsRow.domain false) (Rows.fnShutsSpec.post enc Tryz.prog Tryz.f7 false true false false) := by
  refine returnsInHanded_of_change (C := Tryz.checked) own started (by kernel_rfl) Tryz.func7
    (ChangeSpec.witness6 (enc := enc) (C := Tryz.checked) (s := Rows.fnShutsSpec) false ⟨#[], #[.slice none 0 0], []⟩ 8 (by kernel_rfl) (by kernel_rfl) (by kernel_rfl) (by kernel_rfl)) ?_
  intro W base args ds gs before hval hW _ _
  refine Zfg (tab := tab) Go.Eng.R.base.tab (R := ZgK) (by kernel_rfl) (by kernel_rfl) (by kernel_rfl) (by kernel_rfl) (f := 7) (fn := Tryz.f7) rfl (by kernel_rfl) (tb := 4) rfl Tryz.underlying4 ?_ law_sum args ds gs before hval hW
  intro ds hd
  match ds, hd with
  | [d0], _ => rfl
theorem x_holds : Rows.FnShutsSaid :=
  OpenClaim.holds_of_wide 7 Tryz.f7 rfl rfl rfl rfl rfl rfl rfl ⟨rfl, rfl, rfl, rfl, rfl⟩ rfl rfl rfl rfl rfl (by kernel_rfl) Tryz.func7 (by kernel_rfl)
    (of_decide_eq_true (by kernel_rfl)) (by unfold Func.isWrapper; first | (rw [if_pos (by decide +kernel)]; kernel_rfl) | (rw [if_neg (by decide +kernel)]; exact ⟨rfl, rfl⟩))
    (fun os started H enc _ => lifted os started H enc)
end Go.Proofs.YtjhdhgbboomecaaGreat
