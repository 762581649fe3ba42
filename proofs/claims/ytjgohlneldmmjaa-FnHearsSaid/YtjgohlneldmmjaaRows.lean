/-
  No cell of these rows narrows 'for every input' (looked for: loops, veiled, ifaces, maps, wideKeys, modest, calm, conditions, laid).
  DERIVED. THE GIVEN ROWS OF THIS SEAT. 5 by the template 'for every input the law returns true; each argument reads behind the call as it read before'; 0 by the template 'total and deterministic' (their statements: YtjgohlneldmmjaaTotals.lean).
  GIVEN WITH THE SEED: the statements are not yours to turn. If you find one false, say at which input.
  Laid BY PROGRAM, IN A SANDBOX (cutbox-rows.mjs): the forced cells as the released guide's own fill.sh prints them over the translation cdc0eb81451a5f1b… (all of the seat's roots in one cut). By AI agents, Wed Nov 11 2026. No macro, syntax, notation, axiom, sorry.
-/
import Derived.Test.YtjgohlneldmmjaaChecked
import GoSem.Claim
import GoSem.ClaimJoined
import GoSem.ClaimMapViews
import Derived.JoinedTies
import Derived.KernelRfl
namespace Go.Proofs.Ytjgohlneldmmjaa
/- THE CELL 'sum', in the pinned program and in every row, IS THE sha256 OF THE DUMP (.gsa) THAT YtjgohlneldmmjaaProg.lean LOADS. Nothing in Lean hashes anything: it is a label: what it is worth is what the hold of that sum in a sandbox is worth. -/
noncomputable def Try.pinned : Pinned := { name := "ytjgohlneldmmjaa", sum := "cdc0eb81451a5f1b27cb4ccd5cc9ffc209e7861bf2aeaa69347fe9c176796324", checked := Try.checked }
namespace Rows
def none {H : Type} : Left H := { results := [], args := [] }

/-- 'laws.FnTreeCuts': WHATEVER THE INPUT: true; the input reads as it did. -/
def fnTreeCutsSpec : ChangeSpec := { name := "fnTreeCuts", fn := fun _ => fun
  | [d] => { results := [.lit (.bool true)], args := [d] }
  | _ => none }
def fnTreeCutsRow : OpenClaim := { program := "ytjgohlneldmmjaa", sum := "cdc0eb81451a5f1b27cb4ccd5cc9ffc209e7861bf2aeaa69347fe9c176796324", func := "loop.example/g00365/laws.FnTreeCuts", spec := "fnTreeCuts", inPlace := ["internal/bytealg.Compare", "slices.overlaps[loop.example/g00365/impl.entry]"], unfollowed := true, recurses := true, apart := false }
def FnTreeCutsSaid : Prop := fnTreeCutsRow.holds Try.pinned (OpenSpec.ofChange fnTreeCutsSpec)

/-- ITS FALSE NEIGHBOUR: 'it returns false'. Refute it at one input. -/
def fnTreeCutsWrong : ChangeSpec := { name := "fnTreeCuts", fn := fun _ => fun
  | [d] => { results := [.lit (.bool false)], args := [d] }
  | _ => none }
def FnTreeCutsWrongFalsely : Prop := fnTreeCutsRow.holds Try.pinned (OpenSpec.ofChange fnTreeCutsWrong)

/-- 'laws.FnExactWheelSet': WHATEVER THE INPUT: true; the input reads as it did. -/
def fnExactWheelSetSpec : ChangeSpec := { name := "fnExactWheelSet", fn := fun _ => fun
  | [d1, d2, d3] => { results := [.lit (.bool true)], args := [d1, d2, d3] }
  | _ => none }
def fnExactWheelSetRow : OpenClaim := { program := "ytjgohlneldmmjaa", sum := "cdc0eb81451a5f1b27cb4ccd5cc9ffc209e7861bf2aeaa69347fe9c176796324", func := "loop.example/g00365/laws.FnExactWheelSet", spec := "fnExactWheelSet", unfollowed := true, recurses := true, apart := false }
def FnExactWheelSetSaid : Prop := fnExactWheelSetRow.holds Try.pinned (OpenSpec.ofChange fnExactWheelSetSpec)

/-- ITS FALSE NEIGHBOUR: 'it returns false'. Refute it at one input. -/
def fnExactWheelSetWrong : ChangeSpec := { name := "fnExactWheelSet", fn := fun _ => fun
  | [d1, d2, d3] => { results := [.lit (.bool false)], args := [d1, d2, d3] }
  | _ => none }
def FnExactWheelSetWrongFalsely : Prop := fnExactWheelSetRow.holds Try.pinned (OpenSpec.ofChange fnExactWheelSetWrong)

/-- 'laws.FnWheels': WHATEVER THE INPUT: true; the input reads as it did. -/
def fnWheelsSpec : ChangeSpec := { name := "fnWheels", fn := fun _ => fun
  | [d] => { results := [.lit (.bool true)], args := [d] }
  | _ => none }
def fnWheelsRow : OpenClaim := { program := "ytjgohlneldmmjaa", sum := "cdc0eb81451a5f1b27cb4ccd5cc9ffc209e7861bf2aeaa69347fe9c176796324", func := "loop.example/g00365/laws.FnWheels", spec := "fnWheels", unfollowed := true, recurses := true, apart := false }
def FnWheelsSaid : Prop := fnWheelsRow.holds Try.pinned (OpenSpec.ofChange fnWheelsSpec)

/-- ITS FALSE NEIGHBOUR: 'it returns false'. Refute it at one input. -/
def fnWheelsWrong : ChangeSpec := { name := "fnWheels", fn := fun _ => fun
  | [d] => { results := [.lit (.bool false)], args := [d] }
  | _ => none }
def FnWheelsWrongFalsely : Prop := fnWheelsRow.holds Try.pinned (OpenSpec.ofChange fnWheelsWrong)

/-- 'laws.FnHears': WHATEVER THE INPUT: true; the input reads as it did. -/
def fnHearsSpec : ChangeSpec := { name := "fnHears", fn := fun _ => fun
  | [d] => { results := [.lit (.bool true)], args := [d] }
  | _ => none }
def fnHearsRow : OpenClaim := { program := "ytjgohlneldmmjaa", sum := "cdc0eb81451a5f1b27cb4ccd5cc9ffc209e7861bf2aeaa69347fe9c176796324", func := "loop.example/g00365/laws.FnHears", spec := "fnHears", apart := false }
def FnHearsSaid : Prop := fnHearsRow.holds Try.pinned (OpenSpec.ofChange fnHearsSpec)

/-- ITS FALSE NEIGHBOUR: 'it returns false'. Refute it at one input. -/
def fnHearsWrong : ChangeSpec := { name := "fnHears", fn := fun _ => fun
  | [d] => { results := [.lit (.bool false)], args := [d] }
  | _ => none }
def FnHearsWrongFalsely : Prop := fnHearsRow.holds Try.pinned (OpenSpec.ofChange fnHearsWrong)

/-- 'laws.FnTreeAlike': WHATEVER THE INPUT: true; the input reads as it did. -/
def fnTreeAlikeSpec : ChangeSpec := { name := "fnTreeAlike", fn := fun _ => fun
  | [d] => { results := [.lit (.bool true)], args := [d] }
  | _ => none }
def fnTreeAlikeRow : OpenClaim := { program := "ytjgohlneldmmjaa", sum := "cdc0eb81451a5f1b27cb4ccd5cc9ffc209e7861bf2aeaa69347fe9c176796324", func := "loop.example/g00365/laws.FnTreeAlike", spec := "fnTreeAlike", inPlace := ["internal/bytealg.Compare", "slices.overlaps[loop.example/g00365/impl.entry]"], unfollowed := true, recurses := true, apart := false }
def FnTreeAlikeSaid : Prop := fnTreeAlikeRow.holds Try.pinned (OpenSpec.ofChange fnTreeAlikeSpec)

/-- ITS FALSE NEIGHBOUR: 'it returns false'. Refute it at one input. -/
def fnTreeAlikeWrong : ChangeSpec := { name := "fnTreeAlike", fn := fun _ => fun
  | [d] => { results := [.lit (.bool false)], args := [d] }
  | _ => none }
def FnTreeAlikeWrongFalsely : Prop := fnTreeAlikeRow.holds Try.pinned (OpenSpec.ofChange fnTreeAlikeWrong)

/- THE SECOND FORM. 'bulk': how many values and letters a reading holds, each counted each time it is reached (what is shared counts as often as it is met; a slice's spare places count too). A statement '..UptoSaid' is the law's where the arguments, and the package variables that the reading takes, are together of bulk at most 1048576: NARROWER than '..Said'. Prove '..Said' where nothing that the law and all that it calls make is longer than what came in: it says more and counts as full. Else prove '..UptoSaid'. A law counts once. -/
mutual
def uptoBulk {H : Type} : DataW H → Nat
  | .lit (.string bytes) => bytes.length + 1
  | .lit _ => 1
  | .nil => 1
  | .ptr d => uptoBulk d + 1
  | .slice elems spare => uptoBulkAll elems + uptoBulkAll spare + 1
  | .agg parts => uptoBulkAll parts + 1
  | .iface _ d => uptoBulk d + 1
  | .map entries => uptoBulkEntries entries + 1
  | .held _ => 1
def uptoBulkAll {H : Type} : List (DataW H) → Nat
  | [] => 0
  | d :: r => uptoBulk d + uptoBulkAll r
def uptoBulkEntries {H : Type} : List (Lit × DataW H) → Nat
  | [] => 0
  | x :: r => uptoBulkEntry x + uptoBulkEntries r
def uptoBulkEntry {H : Type} : Lit × DataW H → Nat
  | (.string bytes, d) => bytes.length + uptoBulk d + 1
  | (_, d) => uptoBulk d + 1
 end
def uptoSmall : (H : Type) → List (DataW H) → Bool := fun _ ds => decide (uptoBulkAll ds ≤ 1048576)
def OpenSpec.upto (s : _root_.Go.ChangeSpec) : _root_.Go.OpenSpec := { _root_.Go.OpenSpec.ofChange s with cond := some uptoSmall }

/-- 'laws.FnTreeCuts', WHERE WHAT IT READS IS OF BULK AT MOST 1048576: true; the input reads as it did. -/
def fnTreeCutsUptoRow : OpenClaim := { program := "ytjgohlneldmmjaa", sum := "cdc0eb81451a5f1b27cb4ccd5cc9ffc209e7861bf2aeaa69347fe9c176796324", func := "loop.example/g00365/laws.FnTreeCuts", spec := "fnTreeCuts", inPlace := ["internal/bytealg.Compare", "slices.overlaps[loop.example/g00365/impl.entry]"], unfollowed := true, recurses := true, apart := false, narrowed := true }
def FnTreeCutsUptoSaid : Prop := fnTreeCutsUptoRow.holds Try.pinned (OpenSpec.upto fnTreeCutsSpec)

/-- 'laws.FnExactWheelSet', WHERE WHAT IT READS IS OF BULK AT MOST 1048576: true; the input reads as it did. -/
def fnExactWheelSetUptoRow : OpenClaim := { program := "ytjgohlneldmmjaa", sum := "cdc0eb81451a5f1b27cb4ccd5cc9ffc209e7861bf2aeaa69347fe9c176796324", func := "loop.example/g00365/laws.FnExactWheelSet", spec := "fnExactWheelSet", unfollowed := true, recurses := true, apart := false, narrowed := true }
def FnExactWheelSetUptoSaid : Prop := fnExactWheelSetUptoRow.holds Try.pinned (OpenSpec.upto fnExactWheelSetSpec)

/-- 'laws.FnWheels', WHERE WHAT IT READS IS OF BULK AT MOST 1048576: true; the input reads as it did. -/
def fnWheelsUptoRow : OpenClaim := { program := "ytjgohlneldmmjaa", sum := "cdc0eb81451a5f1b27cb4ccd5cc9ffc209e7861bf2aeaa69347fe9c176796324", func := "loop.example/g00365/laws.FnWheels", spec := "fnWheels", unfollowed := true, recurses := true, apart := false, narrowed := true }
def FnWheelsUptoSaid : Prop := fnWheelsUptoRow.holds Try.pinned (OpenSpec.upto fnWheelsSpec)

/-- 'laws.FnHears', WHERE WHAT IT READS IS OF BULK AT MOST 1048576: true; the input reads as it did. -/
def fnHearsUptoRow : OpenClaim := { program := "ytjgohlneldmmjaa", sum := "cdc0eb81451a5f1b27cb4ccd5cc9ffc209e7861bf2aeaa69347fe9c176796324", func := "loop.example/g00365/laws.FnHears", spec := "fnHears", apart := false, narrowed := true }
def FnHearsUptoSaid : Prop := fnHearsUptoRow.holds Try.pinned (OpenSpec.upto fnHearsSpec)

/-- 'laws.FnTreeAlike', WHERE WHAT IT READS IS OF BULK AT MOST 1048576: true; the input reads as it did. -/
def fnTreeAlikeUptoRow : OpenClaim := { program := "ytjgohlneldmmjaa", sum := "cdc0eb81451a5f1b27cb4ccd5cc9ffc209e7861bf2aeaa69347fe9c176796324", func := "loop.example/g00365/laws.FnTreeAlike", spec := "fnTreeAlike", inPlace := ["internal/bytealg.Compare", "slices.overlaps[loop.example/g00365/impl.entry]"], unfollowed := true, recurses := true, apart := false, narrowed := true }
def FnTreeAlikeUptoSaid : Prop := fnTreeAlikeUptoRow.holds Try.pinned (OpenSpec.upto fnTreeAlikeSpec)

end Rows
end Go.Proofs.Ytjgohlneldmmjaa
