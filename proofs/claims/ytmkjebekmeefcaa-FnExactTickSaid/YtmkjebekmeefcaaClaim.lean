/- 'laws.FnExactTick' returns true, whatever it is called with. -/
import Derived.Test.YtmkjebekmeefcaaE5
import Derived.JoinedOf
import Derived.Test.YtmkjebekmeefcaaRows
set_option linter.unusedVariables false
namespace Go.Proofs.Ytmkjebekmeefcaa
open Go Go.Eng Go.Eng.R
theorem law_sum (xs : List V) (h : WtAll tab Try.f6.params.toList xs) : SumOk Try.prog tab 6 xs (.bool true, []) := by
  obtain ⟨p0, p1, rfl, h0, h1⟩ := WtAll.two (t := t_laws_Node) (u := t_int') h
  have e0 := h0.eta (ty := _) rfl
  have e1 := h1.eta (ty := _) rfl
  have w0 : W_Node (n_laws_Node p0) := (wt_laws_Node h0 : W_Node p0)
  have hl := law_Tick w0 (show I64 (gi p1 0) from wt_i64 (h1.cell 0 rfl))
  refine laws_FnExactTick_s_ok _ _ ?_
  rw [e0, e1]
  show some ((laws_FnExactTick (n_laws_Node p0) (gi p1 0)).isSome, laws_FnExactTick_sh ((laws_FnExactTick (n_laws_Node p0) (gi p1 0)).getD default)) = _
  rw [hl]
  rfl
theorem own : ownKnob Try.prog.godebug = none := by kernel_rfl
set_option maxRecDepth 100000 in
theorem lifted (os : Os) (started : os.Started) (H : Type) (enc : TypeId × Value → H) :
    ReturnsInHanded {} Try.checked os 6 .any (Rows.fnExactTickSpec.pre6 enc Try.prog Try.f6 Rows.fnExactTickRow.domain false) (Rows.fnExactTickSpec.post enc Try.prog Try.f6 false true false false) := by
  refine returnsInHanded_of_change (C := Try.checked) own started (by kernel_rfl) Try.func6
    (ChangeSpec.witness6 (enc := enc) (C := Try.checked) (s := Rows.fnExactTickSpec) false ⟨#[], #[.agg #[.int .i64 0, .int .i64 0, .int .i64 0, .slice none 0 0, .int .i64 0, .int .i64 0, .int .i64 0, .int .i64 0, .slice none 0 0, .slice none 0 0, .slice none 0 0], .int .i64 0], []⟩ 8 (by kernel_rfl) (by kernel_rfl) (by kernel_rfl) (by kernel_rfl)) ?_
  intro W base args ds gs before hval hW _ _
  refine law_contract (tab := tab) Go.Eng.R.base.tab (R := readable) (by kernel_rfl) (by kernel_rfl) (by kernel_rfl) (by kernel_rfl) (f := 6) (fn := Try.f6) rfl (by kernel_rfl) (tb := 4) rfl Try.underlying4 ?_ law_sum args ds gs before hval hW
  intro ds hd
  match ds, hd with
  | [d0, d1], _ => rfl
theorem x_holds : Rows.FnExactTickSaid :=
  OpenClaim.holds_of_wide 6 Try.f6 rfl rfl rfl rfl rfl rfl rfl ⟨rfl, rfl, rfl, rfl, rfl⟩ rfl rfl rfl rfl rfl (by kernel_rfl) Try.func6 (by kernel_rfl)
    (of_decide_eq_true (by kernel_rfl)) (by unfold Func.isWrapper; first | (rw [if_pos (by decide +kernel)]; kernel_rfl) | (rw [if_neg (by decide +kernel)]; exact ⟨rfl, rfl⟩))
    (fun os started H enc _ => lifted os started H enc)
end Go.Proofs.Ytmkjebekmeefcaa
