/- 'laws.FnOnce' returns true, whatever it is called with. -/
import Derived.Test.YtjhdhgbboomecaaGreatE9
import Derived.JoinedOf
import Derived.Test.YtjhdhgbboomecaaGreatRows
set_option linter.unusedVariables false
namespace Go.Proofs.YtjhdhgbboomecaaGreat
open Go Go.Eng Go.Eng.R Go.ChangeShapes Go.WideShapes
theorem law_sum (xs : List V) (h : WtAll tab Tryz.f8.params.toList xs) (hz : ∀ l, xs = [V.inl Zc l] → l.length ≤ reachBytes) : SumOk Tryz.prog tab 8 xs (.bool true, []) := by
  obtain ⟨p0, rfl, h0⟩ := WtAll.one (t := ZfX) h
  have e0 := h0.eta (ty := _) rfl
  have hb : (gl p0 0).length ≤ 140737488351232 := Nat.le_trans (hz (gl p0 0) (congrArg (fun x => [x]) (show p0 = V.inl Zc (gl p0 0) from e0))) (by decide)
  have hl : ZdL (gl p0 0) = some true := law_Once (Zk3 (h0.cell 0 rfl) fun _ => Zhu) hb
  refine e8.ok _ _ ?_
  rw [e0]
  show some ((ZdL (gl p0 0)).isSome, (V.bool ((ZdL (gl p0 0)).getD default), ([] : List V))) = _
  rw [hl]
  rfl
theorem own : ownKnob Tryz.prog.godebug = none := by kernel_rfl
set_option maxRecDepth 100000 in
theorem lifted (os : Os) (started : os.Started) (H : Type) (enc : TypeId × Value → H) :
    ReturnsInHanded {} Tryz.checked os 8 .any (Rows.fnOnceSpec.pre6 enc Tryz.prog Tryz.f8 Rows.fnOnceRow.domain false) (Rows.fnOnceSpec.post enc Tryz.prog Tryz.f8 false true false false) := by
  refine returnsInHanded_of_change_sized (C := Tryz.checked) own started (by kernel_rfl) Tryz.func8
    (ChangeSpec.witness6 (enc := enc) (C := Tryz.checked) (s := Rows.fnOnceSpec) false ⟨#[], #[.slice none 0 0], []⟩ 8 (by kernel_rfl) (by kernel_rfl) (by kernel_rfl) (by kernel_rfl)) ?_
  intro W base args ds gs before hval hW _ hsz _
  refine Zml (tab := tab) Go.Eng.R.base.tab (R := ZgK) (by kernel_rfl) (by kernel_rfl) (by kernel_rfl) (by kernel_rfl) (f := 8) (fn := Tryz.f8) rfl (by kernel_rfl) (tb := 4) rfl Tryz.underlying4 ?_ args ds gs before ?_ hval hW
  · intro ds hd
    match ds, hd with
    | [d0], _ => rfl
  · intro xs p hxs hrq ht
    refine law_sum xs hxs fun l hl => ?_
    subst hl
    have ht : DataW.TrodAll enc Tryz.prog W 0 (fun _ => true) true [22] args.toList ds p := ht
    obtain ⟨v, vs1, d, ds1, a, b, hv, rfl, rfl, h1, h2⟩ := trodAll_cons ht
    obtain ⟨rfl, rfl, rfl⟩ := trodAll_nil h2
    rw [hv] at hrq
    have hsz' : (DataW.weightsEach Tryz.prog (22 :: Rows.fnOnceSpec.plain.varTypes Tryz.prog) (d :: ([] ++ gs))).all (· ≤ reachBytes) = true := hsz
    exact ZpV Tryz.underlying22 (by kernel_rfl) (rq_one hrq) h1 hsz'
theorem x_holds : Rows.FnOnceSaid :=
  OpenClaim.holds_of_wide 8 Tryz.f8 rfl rfl rfl rfl rfl rfl rfl ⟨rfl, rfl, rfl, rfl, rfl⟩ rfl rfl rfl rfl rfl (by kernel_rfl) Tryz.func8 (by kernel_rfl)
    (of_decide_eq_true (by kernel_rfl)) (by unfold Func.isWrapper; first | (rw [if_pos (by decide +kernel)]; kernel_rfl) | (rw [if_neg (by decide +kernel)]; exact ⟨rfl, rfl⟩))
    (fun os started H enc _ => lifted os started H enc)
end Go.Proofs.YtjhdhgbboomecaaGreat
