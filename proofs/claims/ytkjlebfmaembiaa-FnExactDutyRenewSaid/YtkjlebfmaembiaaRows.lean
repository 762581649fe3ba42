/-
  No cell of these rows narrows 'for every input' (looked for: loops, veiled, ifaces, maps, wideKeys, modest, calm, conditions, laid).
  DERIVED. THE GIVEN ROWS OF THIS SEAT. 5 by the template 'for every input the law returns true; each argument reads behind the call as it read before'; 0 by the template 'total and deterministic' (their statements: YtkjlebfmaembiaaTotals.lean).
  GIVEN WITH THE SEED: the statements are not yours to turn. If you find one false, say at which input.
  Laid BY PROGRAM, IN A SANDBOX (cutbox-rows.mjs): the forced cells as the released guide's own fill.sh prints them over the translation f1b094c1cd1d1d55… (all of the seat's roots in one cut). By AI agents, Wed Nov 11 2026. No macro, syntax, notation, axiom, sorry.
-/
import Derived.Test.YtkjlebfmaembiaaChecked
import GoSem.Claim
import GoSem.ClaimJoined
import GoSem.ClaimMapViews
import Derived.JoinedTies
import Derived.KernelRfl
namespace Go.Proofs.Ytkjlebfmaembiaa
/- THE CELL 'sum', in the pinned program and in every row, IS THE sha256 OF THE DUMP (.gsa) THAT YtkjlebfmaembiaaProg.lean LOADS. Nothing in Lean hashes anything: it is a label: what it is worth is what the hold of that sum in a sandbox is worth. -/
noncomputable def Try.pinned : Pinned := { name := "ytkjlebfmaembiaa", sum := "f1b094c1cd1d1d5541800ba45d87af7a5f91420233c58349d276c3755638e6e0", checked := Try.checked }
namespace Rows
def none {H : Type} : Left H := { results := [], args := [] }

/-- 'laws.FnExactLocalDrop': WHATEVER THE INPUT: true; the input reads as it did. -/
def fnExactLocalDropSpec : ChangeSpec := { name := "fnExactLocalDrop", fn := fun _ => fun
  | [d1, d2] => { results := [.lit (.bool true)], args := [d1, d2] }
  | _ => none }
def fnExactLocalDropRow : OpenClaim := { program := "ytkjlebfmaembiaa", sum := "f1b094c1cd1d1d5541800ba45d87af7a5f91420233c58349d276c3755638e6e0", func := "loop.example/g00365/laws.FnExactLocalDrop", spec := "fnExactLocalDrop", inPlace := ["internal/bytealg.Compare"], unfollowed := true, recurses := true, apart := false }
def FnExactLocalDropSaid : Prop := fnExactLocalDropRow.holds Try.pinned (OpenSpec.ofChange fnExactLocalDropSpec)

/-- ITS FALSE NEIGHBOUR: 'it returns false'. Refute it at one input. -/
def fnExactLocalDropWrong : ChangeSpec := { name := "fnExactLocalDrop", fn := fun _ => fun
  | [d1, d2] => { results := [.lit (.bool false)], args := [d1, d2] }
  | _ => none }
def FnExactLocalDropWrongFalsely : Prop := fnExactLocalDropRow.holds Try.pinned (OpenSpec.ofChange fnExactLocalDropWrong)

/-- 'laws.FnExactLocalAdd': WHATEVER THE INPUT: true; the input reads as it did. -/
def fnExactLocalAddSpec : ChangeSpec := { name := "fnExactLocalAdd", fn := fun _ => fun
  | [d1, d2] => { results := [.lit (.bool true)], args := [d1, d2] }
  | _ => none }
def fnExactLocalAddRow : OpenClaim := { program := "ytkjlebfmaembiaa", sum := "f1b094c1cd1d1d5541800ba45d87af7a5f91420233c58349d276c3755638e6e0", func := "loop.example/g00365/laws.FnExactLocalAdd", spec := "fnExactLocalAdd", inPlace := ["internal/bytealg.Compare", "slices.overlaps[loop.example/g00365/impl.Service]"], unfollowed := true, recurses := true, apart := false }
def FnExactLocalAddSaid : Prop := fnExactLocalAddRow.holds Try.pinned (OpenSpec.ofChange fnExactLocalAddSpec)

/-- ITS FALSE NEIGHBOUR: 'it returns false'. Refute it at one input. -/
def fnExactLocalAddWrong : ChangeSpec := { name := "fnExactLocalAdd", fn := fun _ => fun
  | [d1, d2] => { results := [.lit (.bool false)], args := [d1, d2] }
  | _ => none }
def FnExactLocalAddWrongFalsely : Prop := fnExactLocalAddRow.holds Try.pinned (OpenSpec.ofChange fnExactLocalAddWrong)

/-- 'laws.FnExactLocalCheck': WHATEVER THE INPUT: true; the input reads as it did. -/
def fnExactLocalCheckSpec : ChangeSpec := { name := "fnExactLocalCheck", fn := fun _ => fun
  | [d1, d2, d3] => { results := [.lit (.bool true)], args := [d1, d2, d3] }
  | _ => none }
def fnExactLocalCheckRow : OpenClaim := { program := "ytkjlebfmaembiaa", sum := "f1b094c1cd1d1d5541800ba45d87af7a5f91420233c58349d276c3755638e6e0", func := "loop.example/g00365/laws.FnExactLocalCheck", spec := "fnExactLocalCheck", inPlace := ["internal/bytealg.Compare", "slices.overlaps[loop.example/g00365/impl.Check]"], unfollowed := true, recurses := true, apart := false }
def FnExactLocalCheckSaid : Prop := fnExactLocalCheckRow.holds Try.pinned (OpenSpec.ofChange fnExactLocalCheckSpec)

/-- ITS FALSE NEIGHBOUR: 'it returns false'. Refute it at one input. -/
def fnExactLocalCheckWrong : ChangeSpec := { name := "fnExactLocalCheck", fn := fun _ => fun
  | [d1, d2, d3] => { results := [.lit (.bool false)], args := [d1, d2, d3] }
  | _ => none }
def FnExactLocalCheckWrongFalsely : Prop := fnExactLocalCheckRow.holds Try.pinned (OpenSpec.ofChange fnExactLocalCheckWrong)

/-- 'laws.FnApplies': WHATEVER THE INPUT: true; the input reads as it did. -/
def fnAppliesSpec : ChangeSpec := { name := "fnApplies", fn := fun _ => fun
  | [d] => { results := [.lit (.bool true)], args := [d] }
  | _ => none }
def fnAppliesRow : OpenClaim := { program := "ytkjlebfmaembiaa", sum := "f1b094c1cd1d1d5541800ba45d87af7a5f91420233c58349d276c3755638e6e0", func := "loop.example/g00365/laws.FnApplies", spec := "fnApplies", inPlace := ["internal/bytealg.Compare", "slices.overlaps[loop.example/g00365/impl.Row]", "slices.overlaps[loop.example/g00365/impl.Last]"], unfollowed := true, recurses := true, apart := false }
def FnAppliesSaid : Prop := fnAppliesRow.holds Try.pinned (OpenSpec.ofChange fnAppliesSpec)

/-- ITS FALSE NEIGHBOUR: 'it returns false'. Refute it at one input. -/
def fnAppliesWrong : ChangeSpec := { name := "fnApplies", fn := fun _ => fun
  | [d] => { results := [.lit (.bool false)], args := [d] }
  | _ => none }
def FnAppliesWrongFalsely : Prop := fnAppliesRow.holds Try.pinned (OpenSpec.ofChange fnAppliesWrong)

/-- 'laws.FnExactDutyRenew': WHATEVER THE INPUT: true; the input reads as it did. -/
def fnExactDutyRenewSpec : ChangeSpec := { name := "fnExactDutyRenew", fn := fun _ => fun
  | [d1, d2] => { results := [.lit (.bool true)], args := [d1, d2] }
  | _ => none }
def fnExactDutyRenewRow : OpenClaim := { program := "ytkjlebfmaembiaa", sum := "f1b094c1cd1d1d5541800ba45d87af7a5f91420233c58349d276c3755638e6e0", func := "loop.example/g00365/laws.FnExactDutyRenew", spec := "fnExactDutyRenew", unfollowed := true, recurses := true, apart := false }
def FnExactDutyRenewSaid : Prop := fnExactDutyRenewRow.holds Try.pinned (OpenSpec.ofChange fnExactDutyRenewSpec)

/-- ITS FALSE NEIGHBOUR: 'it returns false'. Refute it at one input. -/
def fnExactDutyRenewWrong : ChangeSpec := { name := "fnExactDutyRenew", fn := fun _ => fun
  | [d1, d2] => { results := [.lit (.bool false)], args := [d1, d2] }
  | _ => none }
def FnExactDutyRenewWrongFalsely : Prop := fnExactDutyRenewRow.holds Try.pinned (OpenSpec.ofChange fnExactDutyRenewWrong)

/- THE SECOND FORM. 'bulk': how many values and letters a reading holds, each counted each time it is reached (what is shared counts as often as it is met; a slice's spare places count too). A statement '..UptoSaid' is the law's where the arguments, and the package variables that the reading takes, are together of bulk at most 1048576: NARROWER than '..Said'. Prove '..Said' where nothing that the law and all that it calls make is longer than what came in: it says more and counts as full. Else prove '..UptoSaid'. A law counts once. -/
mutual
def uptoBulk {H : Type} : DataW H → Nat
  | .lit (.string bytes) => bytes.length + 1
  | .lit _ => 1
  | .nil => 1
  | .ptr d => uptoBulk d + 1
  | .slice elems spare => uptoBulkAll elems + uptoBulkAll spare + 1
  | .agg parts => uptoBulkAll parts + 1
  | .iface _ d => uptoBulk d + 1
  | .map entries => uptoBulkEntries entries + 1
  | .held _ => 1
def uptoBulkAll {H : Type} : List (DataW H) → Nat
  | [] => 0
  | d :: r => uptoBulk d + uptoBulkAll r
def uptoBulkEntries {H : Type} : List (Lit × DataW H) → Nat
  | [] => 0
  | x :: r => uptoBulkEntry x + uptoBulkEntries r
def uptoBulkEntry {H : Type} : Lit × DataW H → Nat
  | (.string bytes, d) => bytes.length + uptoBulk d + 1
  | (_, d) => uptoBulk d + 1
 end
def uptoSmall : (H : Type) → List (DataW H) → Bool := fun _ ds => decide (uptoBulkAll ds ≤ 1048576)
def OpenSpec.upto (s : _root_.Go.ChangeSpec) : _root_.Go.OpenSpec := { _root_.Go.OpenSpec.ofChange s with cond := some uptoSmall }

/-- 'laws.FnExactLocalDrop', WHERE WHAT IT READS IS OF BULK AT MOST 1048576: true; the input reads as it did. -/
def fnExactLocalDropUptoRow : OpenClaim := { program := "ytkjlebfmaembiaa", sum := "f1b094c1cd1d1d5541800ba45d87af7a5f91420233c58349d276c3755638e6e0", func := "loop.example/g00365/laws.FnExactLocalDrop", spec := "fnExactLocalDrop", inPlace := ["internal/bytealg.Compare"], unfollowed := true, recurses := true, apart := false, narrowed := true }
def FnExactLocalDropUptoSaid : Prop := fnExactLocalDropUptoRow.holds Try.pinned (OpenSpec.upto fnExactLocalDropSpec)

/-- 'laws.FnExactLocalAdd', WHERE WHAT IT READS IS OF BULK AT MOST 1048576: true; the input reads as it did. -/
def fnExactLocalAddUptoRow : OpenClaim := { program := "ytkjlebfmaembiaa", sum := "f1b094c1cd1d1d5541800ba45d87af7a5f91420233c58349d276c3755638e6e0", func := "loop.example/g00365/laws.FnExactLocalAdd", spec := "fnExactLocalAdd", inPlace := ["internal/bytealg.Compare", "slices.overlaps[loop.example/g00365/impl.Service]"], unfollowed := true, recurses := true, apart := false, narrowed := true }
def FnExactLocalAddUptoSaid : Prop := fnExactLocalAddUptoRow.holds Try.pinned (OpenSpec.upto fnExactLocalAddSpec)

/-- 'laws.FnExactLocalCheck', WHERE WHAT IT READS IS OF BULK AT MOST 1048576: true; the input reads as it did. -/
def fnExactLocalCheckUptoRow : OpenClaim := { program := "ytkjlebfmaembiaa", sum := "f1b094c1cd1d1d5541800ba45d87af7a5f91420233c58349d276c3755638e6e0", func := "loop.example/g00365/laws.FnExactLocalCheck", spec := "fnExactLocalCheck", inPlace := ["internal/bytealg.Compare", "slices.overlaps[loop.example/g00365/impl.Check]"], unfollowed := true, recurses := true, apart := false, narrowed := true }
def FnExactLocalCheckUptoSaid : Prop := fnExactLocalCheckUptoRow.holds Try.pinned (OpenSpec.upto fnExactLocalCheckSpec)

/-- 'laws.FnApplies', WHERE WHAT IT READS IS OF BULK AT MOST 1048576: true; the input reads as it did. -/
def fnAppliesUptoRow : OpenClaim := { program := "ytkjlebfmaembiaa", sum := "f1b094c1cd1d1d5541800ba45d87af7a5f91420233c58349d276c3755638e6e0", func := "loop.example/g00365/laws.FnApplies", spec := "fnApplies", inPlace := ["internal/bytealg.Compare", "slices.overlaps[loop.example/g00365/impl.Row]", "slices.overlaps[loop.example/g00365/impl.Last]"], unfollowed := true, recurses := true, apart := false, narrowed := true }
def FnAppliesUptoSaid : Prop := fnAppliesUptoRow.holds Try.pinned (OpenSpec.upto fnAppliesSpec)

/-- 'laws.FnExactDutyRenew', WHERE WHAT IT READS IS OF BULK AT MOST 1048576: true; the input reads as it did. -/
def fnExactDutyRenewUptoRow : OpenClaim := { program := "ytkjlebfmaembiaa", sum := "f1b094c1cd1d1d5541800ba45d87af7a5f91420233c58349d276c3755638e6e0", func := "loop.example/g00365/laws.FnExactDutyRenew", spec := "fnExactDutyRenew", unfollowed := true, recurses := true, apart := false, narrowed := true }
def FnExactDutyRenewUptoSaid : Prop := fnExactDutyRenewUptoRow.holds Try.pinned (OpenSpec.upto fnExactDutyRenewSpec)

end Rows
end Go.Proofs.Ytkjlebfmaembiaa
