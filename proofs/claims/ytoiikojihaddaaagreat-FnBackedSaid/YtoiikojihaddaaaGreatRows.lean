/-
  No cell of these rows narrows 'for every input' (looked for: loops, veiled, ifaces, maps, wideKeys, modest, calm, conditions, laid).
  DERIVED. THE GIVEN ROWS OF THIS SEAT. 6 by the template 'for every input the law returns true; each argument reads behind the call as it read before'; 0 by the template 'total and deterministic' (their statements: YtoiikojihaddaaaGreatTotals.lean).
  GIVEN WITH THE SEED: the statements are not yours to turn. If you find one false, say at which input.
  Laid BY PROGRAM, IN A SANDBOX (cutbox-rows.mjs): the forced cells as the released guide's own fill.sh prints them over the translation 77ecc6912c49f5e6… (all of the seat's roots in one cut). By AI agents, Wed Nov 11 2026. No macro, syntax, notation, axiom, sorry.
-/
import Derived.Test.YtoiikojihaddaaaGreatChecked
import GoSem.Claim
import GoSem.ClaimJoined
import GoSem.ClaimMapViews
import Derived.JoinedTies
import Derived.KernelRfl
namespace Go.Proofs.YtoiikojihaddaaaGreat
/- THE CELL 'sum', in the pinned program and in every row, IS THE sha256 OF THE DUMP (.gsa) THAT YtoiikojihaddaaaGreatProg.lean LOADS. Nothing in Lean hashes anything: it is a label: what it is worth is what the hold of that sum in a sandbox is worth. -/
noncomputable def Tryz.pinned : Pinned := { name := "ytoiikojihaddaaagreat", sum := "77ecc6912c49f5e655f05d5eff2b36a8735f1fe6de0126be7c3267135262c4cb", checked := Tryz.checked }
namespace Rows
def none {H : Type} : Left H := { results := [], args := [] }

/-- 'laws.FnMerges': WHATEVER THE INPUT: true; the input reads as it did. -/
def fnMergesSpec : ChangeSpec := { name := "fnMerges", fn := fun _ => fun
  | [d] => { results := [.lit (.bool true)], args := [d] }
  | _ => none }
def fnMergesRow : OpenClaim := { program := "ytoiikojihaddaaagreat", sum := "77ecc6912c49f5e655f05d5eff2b36a8735f1fe6de0126be7c3267135262c4cb", func := "loop.example/g00365/laws.FnMerges", spec := "fnMerges", inPlace := ["slices.overlaps[loop.example/g00365/impl.Member]", "internal/bytealg.Compare", "slices.overlaps[loop.example/g00365/impl.Row]", "slices.overlaps[loop.example/g00365/impl.Last]"], unfollowed := true, recurses := true, apart := false }
def FnMergesSaid : Prop := fnMergesRow.holds Tryz.pinned (OpenSpec.ofChange fnMergesSpec)

/-- ITS FALSE NEIGHBOUR: 'it returns false'. Refute it at one input. -/
def fnMergesWrong : ChangeSpec := { name := "fnMerges", fn := fun _ => fun
  | [d] => { results := [.lit (.bool false)], args := [d] }
  | _ => none }
def FnMergesWrongFalsely : Prop := fnMergesRow.holds Tryz.pinned (OpenSpec.ofChange fnMergesWrong)

/-- 'laws.FnNewer': WHATEVER THE INPUT: true; the input reads as it did. -/
def fnNewerSpec : ChangeSpec := { name := "fnNewer", fn := fun _ => fun
  | [d] => { results := [.lit (.bool true)], args := [d] }
  | _ => none }
def fnNewerRow : OpenClaim := { program := "ytoiikojihaddaaagreat", sum := "77ecc6912c49f5e655f05d5eff2b36a8735f1fe6de0126be7c3267135262c4cb", func := "loop.example/g00365/laws.FnNewer", spec := "fnNewer", inPlace := ["internal/bytealg.Compare", "slices.overlaps[loop.example/g00365/impl.Row]", "slices.overlaps[loop.example/g00365/impl.Last]"], unfollowed := true, recurses := true, apart := false }
def FnNewerSaid : Prop := fnNewerRow.holds Tryz.pinned (OpenSpec.ofChange fnNewerSpec)

/-- ITS FALSE NEIGHBOUR: 'it returns false'. Refute it at one input. -/
def fnNewerWrong : ChangeSpec := { name := "fnNewer", fn := fun _ => fun
  | [d] => { results := [.lit (.bool false)], args := [d] }
  | _ => none }
def FnNewerWrongFalsely : Prop := fnNewerRow.holds Tryz.pinned (OpenSpec.ofChange fnNewerWrong)

/-- 'laws.FnMembers': WHATEVER THE INPUT: true; the input reads as it did. -/
def fnMembersSpec : ChangeSpec := { name := "fnMembers", fn := fun _ => fun
  | [d] => { results := [.lit (.bool true)], args := [d] }
  | _ => none }
def fnMembersRow : OpenClaim := { program := "ytoiikojihaddaaagreat", sum := "77ecc6912c49f5e655f05d5eff2b36a8735f1fe6de0126be7c3267135262c4cb", func := "loop.example/g00365/laws.FnMembers", spec := "fnMembers", inPlace := ["slices.overlaps[loop.example/g00365/impl.Member]", "internal/bytealg.Compare", "slices.overlaps[loop.example/g00365/impl.Row]", "slices.overlaps[loop.example/g00365/impl.Last]"], unfollowed := true, recurses := true, apart := false }
def FnMembersSaid : Prop := fnMembersRow.holds Tryz.pinned (OpenSpec.ofChange fnMembersSpec)

/-- ITS FALSE NEIGHBOUR: 'it returns false'. Refute it at one input. -/
def fnMembersWrong : ChangeSpec := { name := "fnMembers", fn := fun _ => fun
  | [d] => { results := [.lit (.bool false)], args := [d] }
  | _ => none }
def FnMembersWrongFalsely : Prop := fnMembersRow.holds Tryz.pinned (OpenSpec.ofChange fnMembersWrong)

/-- 'laws.FnRefutes': WHATEVER THE INPUT: true; the input reads as it did. -/
def fnRefutesSpec : ChangeSpec := { name := "fnRefutes", fn := fun _ => fun
  | [d] => { results := [.lit (.bool true)], args := [d] }
  | _ => none }
def fnRefutesRow : OpenClaim := { program := "ytoiikojihaddaaagreat", sum := "77ecc6912c49f5e655f05d5eff2b36a8735f1fe6de0126be7c3267135262c4cb", func := "loop.example/g00365/laws.FnRefutes", spec := "fnRefutes", inPlace := ["internal/bytealg.Compare", "slices.overlaps[loop.example/g00365/impl.Row]", "slices.overlaps[loop.example/g00365/impl.Last]", "slices.overlaps[loop.example/g00365/impl.Member]"], unfollowed := true, recurses := true, apart := false }
def FnRefutesSaid : Prop := fnRefutesRow.holds Tryz.pinned (OpenSpec.ofChange fnRefutesSpec)

/-- ITS FALSE NEIGHBOUR: 'it returns false'. Refute it at one input. -/
def fnRefutesWrong : ChangeSpec := { name := "fnRefutes", fn := fun _ => fun
  | [d] => { results := [.lit (.bool false)], args := [d] }
  | _ => none }
def FnRefutesWrongFalsely : Prop := fnRefutesRow.holds Tryz.pinned (OpenSpec.ofChange fnRefutesWrong)

/-- 'laws.FnBacked': WHATEVER THE INPUT: true; the input reads as it did. -/
def fnBackedSpec : ChangeSpec := { name := "fnBacked", fn := fun _ => fun
  | [d] => { results := [.lit (.bool true)], args := [d] }
  | _ => none }
def fnBackedRow : OpenClaim := { program := "ytoiikojihaddaaagreat", sum := "77ecc6912c49f5e655f05d5eff2b36a8735f1fe6de0126be7c3267135262c4cb", func := "loop.example/g00365/laws.FnBacked", spec := "fnBacked", inPlace := ["internal/bytealg.Compare", "slices.overlaps[loop.example/g00365/impl.Row]", "slices.overlaps[loop.example/g00365/impl.Last]"], unfollowed := true, recurses := true, apart := false }
def FnBackedSaid : Prop := fnBackedRow.holds Tryz.pinned (OpenSpec.ofChange fnBackedSpec)

/-- ITS FALSE NEIGHBOUR: 'it returns false'. Refute it at one input. -/
def fnBackedWrong : ChangeSpec := { name := "fnBacked", fn := fun _ => fun
  | [d] => { results := [.lit (.bool false)], args := [d] }
  | _ => none }
def FnBackedWrongFalsely : Prop := fnBackedRow.holds Tryz.pinned (OpenSpec.ofChange fnBackedWrong)

/-- 'laws.FnProbes': WHATEVER THE INPUT: true; the input reads as it did. -/
def fnProbesSpec : ChangeSpec := { name := "fnProbes", fn := fun _ => fun
  | [d] => { results := [.lit (.bool true)], args := [d] }
  | _ => none }
def fnProbesRow : OpenClaim := { program := "ytoiikojihaddaaagreat", sum := "77ecc6912c49f5e655f05d5eff2b36a8735f1fe6de0126be7c3267135262c4cb", func := "loop.example/g00365/laws.FnProbes", spec := "fnProbes", inPlace := ["internal/bytealg.Compare", "slices.overlaps[loop.example/g00365/impl.Row]", "slices.overlaps[loop.example/g00365/impl.Last]"], unfollowed := true, recurses := true, apart := false }
def FnProbesSaid : Prop := fnProbesRow.holds Tryz.pinned (OpenSpec.ofChange fnProbesSpec)

/-- ITS FALSE NEIGHBOUR: 'it returns false'. Refute it at one input. -/
def fnProbesWrong : ChangeSpec := { name := "fnProbes", fn := fun _ => fun
  | [d] => { results := [.lit (.bool false)], args := [d] }
  | _ => none }
def FnProbesWrongFalsely : Prop := fnProbesRow.holds Tryz.pinned (OpenSpec.ofChange fnProbesWrong)

/- THE SECOND FORM. 'bulk': how many values and letters a reading holds, each counted each time it is reached (what is shared counts as often as it is met; a slice's spare places count too). A statement '..UptoSaid' is the law's where the arguments, and the package variables that the reading takes, are together of bulk at most 1048576: NARROWER than '..Said'. Prove '..Said' where nothing that the law and all that it calls make is longer than what came in: it says more and counts as full. Else prove '..UptoSaid'. A law counts once. -/
mutual
def uptoBulk {H : Type} : DataW H → Nat
  | .lit (.string bytes) => bytes.length + 1
  | .lit _ => 1
  | .nil => 1
  | .ptr d => uptoBulk d + 1
  | .slice elems spare => uptoBulkAll elems + uptoBulkAll spare + 1
  | .agg parts => uptoBulkAll parts + 1
  | .iface _ d => uptoBulk d + 1
  | .map entries => uptoBulkEntries entries + 1
  | .held _ => 1
def uptoBulkAll {H : Type} : List (DataW H) → Nat
  | [] => 0
  | d :: r => uptoBulk d + uptoBulkAll r
def uptoBulkEntries {H : Type} : List (Lit × DataW H) → Nat
  | [] => 0
  | x :: r => uptoBulkEntry x + uptoBulkEntries r
def uptoBulkEntry {H : Type} : Lit × DataW H → Nat
  | (.string bytes, d) => bytes.length + uptoBulk d + 1
  | (_, d) => uptoBulk d + 1
 end
def uptoSmall : (H : Type) → List (DataW H) → Bool := fun _ ds => decide (uptoBulkAll ds ≤ 1048576)
def OpenSpec.upto (s : _root_.Go.ChangeSpec) : _root_.Go.OpenSpec := { _root_.Go.OpenSpec.ofChange s with cond := some uptoSmall }

/-- 'laws.FnMerges', WHERE WHAT IT READS IS OF BULK AT MOST 1048576: true; the input reads as it did. -/
def fnMergesUptoRow : OpenClaim := { program := "ytoiikojihaddaaagreat", sum := "77ecc6912c49f5e655f05d5eff2b36a8735f1fe6de0126be7c3267135262c4cb", func := "loop.example/g00365/laws.FnMerges", spec := "fnMerges", inPlace := ["slices.overlaps[loop.example/g00365/impl.Member]", "internal/bytealg.Compare", "slices.overlaps[loop.example/g00365/impl.Row]", "slices.overlaps[loop.example/g00365/impl.Last]"], unfollowed := true, recurses := true, apart := false, narrowed := true }
def FnMergesUptoSaid : Prop := fnMergesUptoRow.holds Tryz.pinned (OpenSpec.upto fnMergesSpec)

/-- 'laws.FnNewer', WHERE WHAT IT READS IS OF BULK AT MOST 1048576: true; the input reads as it did. -/
def fnNewerUptoRow : OpenClaim := { program := "ytoiikojihaddaaagreat", sum := "77ecc6912c49f5e655f05d5eff2b36a8735f1fe6de0126be7c3267135262c4cb", func := "loop.example/g00365/laws.FnNewer", spec := "fnNewer", inPlace := ["internal/bytealg.Compare", "slices.overlaps[loop.example/g00365/impl.Row]", "slices.overlaps[loop.example/g00365/impl.Last]"], unfollowed := true, recurses := true, apart := false, narrowed := true }
def FnNewerUptoSaid : Prop := fnNewerUptoRow.holds Tryz.pinned (OpenSpec.upto fnNewerSpec)

/-- 'laws.FnMembers', WHERE WHAT IT READS IS OF BULK AT MOST 1048576: true; the input reads as it did. -/
def fnMembersUptoRow : OpenClaim := { program := "ytoiikojihaddaaagreat", sum := "77ecc6912c49f5e655f05d5eff2b36a8735f1fe6de0126be7c3267135262c4cb", func := "loop.example/g00365/laws.FnMembers", spec := "fnMembers", inPlace := ["slices.overlaps[loop.example/g00365/impl.Member]", "internal/bytealg.Compare", "slices.overlaps[loop.example/g00365/impl.Row]", "slices.overlaps[loop.example/g00365/impl.Last]"], unfollowed := true, recurses := true, apart := false, narrowed := true }
def FnMembersUptoSaid : Prop := fnMembersUptoRow.holds Tryz.pinned (OpenSpec.upto fnMembersSpec)

/-- 'laws.FnRefutes', WHERE WHAT IT READS IS OF BULK AT MOST 1048576: true; the input reads as it did. -/
def fnRefutesUptoRow : OpenClaim := { program := "ytoiikojihaddaaagreat", sum := "77ecc6912c49f5e655f05d5eff2b36a8735f1fe6de0126be7c3267135262c4cb", func := "loop.example/g00365/laws.FnRefutes", spec := "fnRefutes", inPlace := ["internal/bytealg.Compare", "slices.overlaps[loop.example/g00365/impl.Row]", "slices.overlaps[loop.example/g00365/impl.Last]", "slices.overlaps[loop.example/g00365/impl.Member]"], unfollowed := true, recurses := true, apart := false, narrowed := true }
def FnRefutesUptoSaid : Prop := fnRefutesUptoRow.holds Tryz.pinned (OpenSpec.upto fnRefutesSpec)

/-- 'laws.FnBacked', WHERE WHAT IT READS IS OF BULK AT MOST 1048576: true; the input reads as it did. -/
def fnBackedUptoRow : OpenClaim := { program := "ytoiikojihaddaaagreat", sum := "77ecc6912c49f5e655f05d5eff2b36a8735f1fe6de0126be7c3267135262c4cb", func := "loop.example/g00365/laws.FnBacked", spec := "fnBacked", inPlace := ["internal/bytealg.Compare", "slices.overlaps[loop.example/g00365/impl.Row]", "slices.overlaps[loop.example/g00365/impl.Last]"], unfollowed := true, recurses := true, apart := false, narrowed := true }
def FnBackedUptoSaid : Prop := fnBackedUptoRow.holds Tryz.pinned (OpenSpec.upto fnBackedSpec)

/-- 'laws.FnProbes', WHERE WHAT IT READS IS OF BULK AT MOST 1048576: true; the input reads as it did. -/
def fnProbesUptoRow : OpenClaim := { program := "ytoiikojihaddaaagreat", sum := "77ecc6912c49f5e655f05d5eff2b36a8735f1fe6de0126be7c3267135262c4cb", func := "loop.example/g00365/laws.FnProbes", spec := "fnProbes", inPlace := ["internal/bytealg.Compare", "slices.overlaps[loop.example/g00365/impl.Row]", "slices.overlaps[loop.example/g00365/impl.Last]"], unfollowed := true, recurses := true, apart := false, narrowed := true }
def FnProbesUptoSaid : Prop := fnProbesUptoRow.holds Tryz.pinned (OpenSpec.upto fnProbesSpec)

end Rows
end Go.Proofs.YtoiikojihaddaaaGreat
