/- 'laws.FnSnaps' returns true, whatever it is called with. -/
import Derived.Test.YtpcbeplajmkgpaaGreatE9
import Derived.JoinedOf
import Derived.Test.YtpcbeplajmkgpaaGreatRows
set_option linter.unusedVariables false
namespace Go.Proofs.YtpcbeplajmkgpaaGreat
open Go Go.Eng Go.Eng.R
theorem law_sum (xs:List V) (h:WtAll tab Tryz.f8.params.toList xs):SumOk Tryz.prog tab 8 xs (.bool true,[]):=by
 obtain⟨p0,rfl,h0⟩:=WtAll.one (t:=ZpO) h
 have e0:=h0.eta (ty:=_) rfl
 have hl:Zdt (gl p0 0)=some true:=Zp8 (wt_sl (h0.cell 0 rfl) fun _=>wt_byte)
 refine e8.ok _ _ ?_
 rw[e0]
 show some ((Zdt (gl p0 0)).isSome,(V.bool ((Zdt (gl p0 0)).getD default),([]:List V)))=_
 rw[hl]
 rfl
theorem own:ownKnob Tryz.prog.godebug=none:=by kernel_rfl
set_option maxRecDepth 100000 in
theorem lifted (os:Os) (started:os.Started) (H:Type) (enc:TypeId×Value→H):
  ReturnsInHanded {} Tryz.checked os 8 .any (Rows.fnSnapsSpec.pre6 enc Tryz.prog Tryz.f8 Rows.fnSnapsRow.domain false) (Rows.fnSnapsSpec.post enc Tryz.prog Tryz.f8 false true false false):=by
 refine returnsInHanded_of_change (C:=Tryz.checked) own started (by kernel_rfl) Tryz.func8
  (ChangeSpec.witness6 (enc:=enc) (C:=Tryz.checked) (s:=Rows.fnSnapsSpec) false ⟨#[],#[.slice none 0 0],[]⟩ 8 (by kernel_rfl) (by kernel_rfl) (by kernel_rfl) (by kernel_rfl)) ?_
 intro W base args ds gs before hval hW _ _
 refine ZmS (tab:=tab) Go.Eng.R.base.tab (R:=readable) (by kernel_rfl) (by kernel_rfl) (by kernel_rfl) (by kernel_rfl) (f:=8) (fn:=Tryz.f8) rfl (by kernel_rfl) (tb:=4) rfl Tryz.underlying4 ?_ law_sum args ds gs before hval hW
 intro ds hd
 match ds,hd with
 | [d0],_=>rfl
theorem x_holds:Rows.FnSnapsSaid:=
 OpenClaim.holds_of_wide 8 Tryz.f8 rfl rfl rfl rfl rfl rfl rfl ⟨rfl,rfl,rfl,rfl,rfl⟩ rfl rfl rfl rfl rfl (by kernel_rfl) Tryz.func8 (by kernel_rfl)
  (of_decide_eq_true (by kernel_rfl)) (by unfold Func.isWrapper;first | (rw[if_pos (by decide +kernel)];kernel_rfl) | (rw[if_neg (by decide +kernel)];exact⟨rfl,rfl⟩))
  (fun os started H enc _=>lifted os started H enc)
end Go.Proofs.YtpcbeplajmkgpaaGreat
