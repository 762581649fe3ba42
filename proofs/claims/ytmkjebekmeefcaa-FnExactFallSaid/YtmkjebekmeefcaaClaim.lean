/- 'laws.FnExactFall' returns true, whatever the server and the number of servers. -/
import Derived.Test.YtmkjebekmeefcaaE4
import Derived.JoinedOf
import Derived.Test.YtmkjebekmeefcaaRows
set_option linter.unusedVariables false
namespace Go.Proofs.Ytmkjebekmeefcaa
open Go Go.Eng Go.Eng.R
theorem fall_sum (xs : List V) (h : WtAll tab Try.f3.params.toList xs) : SumOk Try.prog tab 3 xs (.bool true, []) := by
  obtain ⟨n, k, rfl, hn, hk⟩ := WtAll.two (t := t_laws_Node) (u := t_int') h
  have e1 := hn.eta (ty := _) rfl
  have e2 := hk.eta (ty := _) rfl
  refine laws_FnExactFall_s_ok _ _ ?_
  have hw : W_Node n := wt_laws_Node hn
  have hl := law_Fall (n := n_laws_Node n) hw (k := gi k 0) (wt_i64 (hk.cell 0 rfl))
  rw [e1, e2]
  show some ((laws_FnExactFall (n_laws_Node n) (gi k 0)).isSome, laws_FnExactFall_sh ((laws_FnExactFall (n_laws_Node n) (gi k 0)).getD default)) = _
  rw [hl]
  rfl
theorem own : ownKnob Try.prog.godebug = none := by kernel_rfl
set_option maxRecDepth 100000 in
theorem lifted (os : Os) (started : os.Started) (H : Type) (enc : TypeId × Value → H) :
    ReturnsInHanded {} Try.checked os 3 .any (Rows.fnExactFallSpec.pre6 enc Try.prog Try.f3 Rows.fnExactFallRow.domain false) (Rows.fnExactFallSpec.post enc Try.prog Try.f3 false true false false) := by
  refine returnsInHanded_of_change (C := Try.checked) own started (by kernel_rfl) Try.func3
    (ChangeSpec.witness6 (enc := enc) (C := Try.checked) (s := Rows.fnExactFallSpec) false ⟨#[], #[.agg #[.int .i64 0, .int .i64 0, .int .i64 0, .slice none 0 0, .int .i64 0, .int .i64 0, .int .i64 0, .int .i64 0, .slice none 0 0, .slice none 0 0, .slice none 0 0], .int .i64 0], []⟩ 8 (by kernel_rfl) (by kernel_rfl) (by kernel_rfl) (by kernel_rfl)) ?_
  intro W base args ds gs before hval hW _ _
  refine law_contract (tab := tab) Go.Eng.R.base.tab (R := readable) (by kernel_rfl) (by kernel_rfl) (by kernel_rfl) (by kernel_rfl) (f := 3) (fn := Try.f3) rfl (by kernel_rfl) (tb := 4) rfl Try.underlying4 ?_ fall_sum args ds gs before hval hW
  intro ds hd
  match ds, hd with
  | [d1, d2], _ => rfl
theorem x_holds : Rows.FnExactFallSaid :=
  OpenClaim.holds_of_wide 3 Try.f3 rfl rfl rfl rfl rfl rfl rfl ⟨rfl, rfl, rfl, rfl, rfl⟩ rfl rfl rfl rfl rfl (by kernel_rfl) Try.func3 (by kernel_rfl)
    (of_decide_eq_true (by kernel_rfl)) (by unfold Func.isWrapper; first | (rw [if_pos (by decide +kernel)]; kernel_rfl) | (rw [if_neg (by decide +kernel)]; exact ⟨rfl, rfl⟩))
    (fun os started H enc _ => lifted os started H enc)
end Go.Proofs.Ytmkjebekmeefcaa
