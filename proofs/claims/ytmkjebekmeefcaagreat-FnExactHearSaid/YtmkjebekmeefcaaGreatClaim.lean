/- 'laws.FnExactHear' returns true, whatever it is called with. -/
import Derived.Test.YtmkjebekmeefcaaGreatE5
import Derived.JoinedOf
import Derived.Test.YtmkjebekmeefcaaGreatRows
set_option linter.unusedVariables false
namespace Go.Proofs.YtmkjebekmeefcaaGreat
open Go Go.Eng Go.Eng.R
theorem law_sum (xs : List V) (h : WtAll tab Tryz.f3.params.toList xs) : SumOk Tryz.prog tab 3 xs (.bool true, []) := by
  obtain ⟨p0, p1, p2, rfl, h0, h1, h2⟩ := WtAll.three (t := t_laws_Node) (u := t_int') (v := t_laws_Msg) h
  have e0 := h0.eta (ty := _) rfl
  have e1 := h1.eta (ty := _) rfl
  have e2 := h2.eta (ty := _) rfl
  have w0 : W_Node (n_laws_Node p0) := (wt_laws_Node h0 : W_Node p0)
  have w2 : W_Msg (n_laws_Msg p2) := (wt_laws_Msg h2 : W_Msg p2)
  have hl := law_Hear w0 (show I64 (gi p1 0) from wt_i64 (h1.cell 0 rfl)) w2
  refine e3.ok _ _ ?_
  rw [e0, e1, e2]
  show some ((laws_FnExactHear (n_laws_Node p0) (gi p1 0) (n_laws_Msg p2)).isSome, (V.bool ((laws_FnExactHear (n_laws_Node p0) (gi p1 0) (n_laws_Msg p2)).getD default), ([] : List V))) = _
  rw [hl]
  rfl
theorem own : ownKnob Tryz.prog.godebug = none := by kernel_rfl
set_option maxRecDepth 100000 in
theorem lifted (os : Os) (started : os.Started) (H : Type) (enc : TypeId × Value → H) :
    ReturnsInHanded {} Tryz.checked os 3 .any (Rows.fnExactHearSpec.pre6 enc Tryz.prog Tryz.f3 Rows.fnExactHearRow.domain false) (Rows.fnExactHearSpec.post enc Tryz.prog Tryz.f3 false true false false) := by
  refine returnsInHanded_of_change (C := Tryz.checked) own started (by kernel_rfl) Tryz.func3
    (ChangeSpec.witness6 (enc := enc) (C := Tryz.checked) (s := Rows.fnExactHearSpec) false ⟨#[], #[.agg #[.int .i64 0, .int .i64 0, .int .i64 0, .slice none 0 0, .int .i64 0, .int .i64 0, .int .i64 0, .int .i64 0, .slice none 0 0, .slice none 0 0, .slice none 0 0], .int .i64 0, .agg #[.int .i64 0, .int .i64 0, .int .i64 0, .int .i64 0, .int .i64 0, .int .i64 0, .slice none 0 0, .int .i64 0, .bool false]], []⟩ 8 (by kernel_rfl) (by kernel_rfl) (by kernel_rfl) (by kernel_rfl)) ?_
  intro W base args ds gs before hval hW _ _
  refine law_contract (tab := tab) Go.Eng.R.base.tab (R := readable) (by kernel_rfl) (by kernel_rfl) (by kernel_rfl) (by kernel_rfl) (f := 3) (fn := Tryz.f3) rfl (by kernel_rfl) (tb := 4) rfl Tryz.underlying4 ?_ law_sum args ds gs before hval hW
  intro ds hd
  match ds, hd with
  | [d0, d1, d2], _ => rfl
theorem x_holds : Rows.FnExactHearSaid :=
  OpenClaim.holds_of_wide 3 Tryz.f3 rfl rfl rfl rfl rfl rfl rfl ⟨rfl, rfl, rfl, rfl, rfl⟩ rfl rfl rfl rfl rfl (by kernel_rfl) Tryz.func3 (by kernel_rfl)
    (of_decide_eq_true (by kernel_rfl)) (by unfold Func.isWrapper; first | (rw [if_pos (by decide +kernel)]; kernel_rfl) | (rw [if_neg (by decide +kernel)]; exact ⟨rfl, rfl⟩))
    (fun os started H enc _ => lifted os started H enc)
end Go.Proofs.YtmkjebekmeefcaaGreat
