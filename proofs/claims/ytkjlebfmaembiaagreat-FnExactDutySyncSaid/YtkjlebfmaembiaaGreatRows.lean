/-
  No cell of these rows narrows 'for every input' (looked for: loops, veiled, ifaces, maps, wideKeys, modest, calm, conditions, laid).
  DERIVED. THE GIVEN ROWS OF THIS SEAT. 6 by the template 'for every input the law returns true; each argument reads behind the call as it read before'; 0 by the template 'total and deterministic' (their statements: YtkjlebfmaembiaaGreatTotals.lean).
  GIVEN WITH THE SEED: the statements are not yours to turn. If you find one false, say at which input.
  Laid BY PROGRAM, IN A SANDBOX (cutbox-rows.mjs): the forced cells as the released guide's own fill.sh prints them over the translation 927e859fcecb11f9… (all of the seat's roots in one cut). By AI agents, Wed Nov 11 2026. No macro, syntax, notation, axiom, sorry.
-/
import Derived.Test.YtkjlebfmaembiaaGreatChecked
import GoSem.Claim
import GoSem.ClaimJoined
import GoSem.ClaimMapViews
import Derived.JoinedTies
import Derived.KernelRfl
namespace Go.Proofs.YtkjlebfmaembiaaGreat
/- THE CELL 'sum', in the pinned program and in every row, IS THE sha256 OF THE DUMP (.gsa) THAT YtkjlebfmaembiaaGreatProg.lean LOADS. Nothing in Lean hashes anything: it is a label: what it is worth is what the hold of that sum in a sandbox is worth. -/
noncomputable def Tryz.pinned : Pinned := { name := "ytkjlebfmaembiaagreat", sum := "927e859fcecb11f928cc1a42a99b6fef93eed0e9ddc26c1478d17a8afd301ab4", checked := Tryz.checked }
namespace Rows
def none {H : Type} : Left H := { results := [], args := [] }

/-- 'laws.FnExactApply': WHATEVER THE INPUT: true; the input reads as it did. -/
def fnExactApplySpec : ChangeSpec := { name := "fnExactApply", fn := fun _ => fun
  | [d1, d2] => { results := [.lit (.bool true)], args := [d1, d2] }
  | _ => none }
def fnExactApplyRow : OpenClaim := { program := "ytkjlebfmaembiaagreat", sum := "927e859fcecb11f928cc1a42a99b6fef93eed0e9ddc26c1478d17a8afd301ab4", func := "loop.example/g00365/laws.FnExactApply", spec := "fnExactApply", inPlace := ["internal/bytealg.Compare", "slices.overlaps[loop.example/g00365/impl.Row]", "slices.overlaps[loop.example/g00365/impl.Last]"], unfollowed := true, recurses := true, apart := false }
def FnExactApplySaid : Prop := fnExactApplyRow.holds Tryz.pinned (OpenSpec.ofChange fnExactApplySpec)

/-- ITS FALSE NEIGHBOUR: 'it returns false'. Refute it at one input. -/
def fnExactApplyWrong : ChangeSpec := { name := "fnExactApply", fn := fun _ => fun
  | [d1, d2] => { results := [.lit (.bool false)], args := [d1, d2] }
  | _ => none }
def FnExactApplyWrongFalsely : Prop := fnExactApplyRow.holds Tryz.pinned (OpenSpec.ofChange fnExactApplyWrong)

/-- 'laws.FnExactSnapAdd': WHATEVER THE INPUT: true; the input reads as it did. -/
def fnExactSnapAddSpec : ChangeSpec := { name := "fnExactSnapAdd", fn := fun _ => fun
  | [d1, d2] => { results := [.lit (.bool true)], args := [d1, d2] }
  | _ => none }
def fnExactSnapAddRow : OpenClaim := { program := "ytkjlebfmaembiaagreat", sum := "927e859fcecb11f928cc1a42a99b6fef93eed0e9ddc26c1478d17a8afd301ab4", func := "loop.example/g00365/laws.FnExactSnapAdd", spec := "fnExactSnapAdd", inPlace := ["internal/bytealg.Compare"], unfollowed := true, recurses := true, apart := false }
def FnExactSnapAddSaid : Prop := fnExactSnapAddRow.holds Tryz.pinned (OpenSpec.ofChange fnExactSnapAddSpec)

/-- ITS FALSE NEIGHBOUR: 'it returns false'. Refute it at one input. -/
def fnExactSnapAddWrong : ChangeSpec := { name := "fnExactSnapAdd", fn := fun _ => fun
  | [d1, d2] => { results := [.lit (.bool false)], args := [d1, d2] }
  | _ => none }
def FnExactSnapAddWrongFalsely : Prop := fnExactSnapAddRow.holds Tryz.pinned (OpenSpec.ofChange fnExactSnapAddWrong)

/-- 'laws.FnExactSnapOf': WHATEVER THE INPUT: true; the input reads as it did. -/
def fnExactSnapOfSpec : ChangeSpec := { name := "fnExactSnapOf", fn := fun _ => fun
  | [d1, d2] => { results := [.lit (.bool true)], args := [d1, d2] }
  | _ => none }
def fnExactSnapOfRow : OpenClaim := { program := "ytkjlebfmaembiaagreat", sum := "927e859fcecb11f928cc1a42a99b6fef93eed0e9ddc26c1478d17a8afd301ab4", func := "loop.example/g00365/laws.FnExactSnapOf", spec := "fnExactSnapOf", inPlace := ["internal/bytealg.Compare", "slices.overlaps[loop.example/g00365/impl.Row]", "slices.overlaps[loop.example/g00365/impl.Last]"], unfollowed := true, recurses := true, apart := false }
def FnExactSnapOfSaid : Prop := fnExactSnapOfRow.holds Tryz.pinned (OpenSpec.ofChange fnExactSnapOfSpec)

/-- ITS FALSE NEIGHBOUR: 'it returns false'. Refute it at one input. -/
def fnExactSnapOfWrong : ChangeSpec := { name := "fnExactSnapOf", fn := fun _ => fun
  | [d1, d2] => { results := [.lit (.bool false)], args := [d1, d2] }
  | _ => none }
def FnExactSnapOfWrongFalsely : Prop := fnExactSnapOfRow.holds Tryz.pinned (OpenSpec.ofChange fnExactSnapOfWrong)

/-- 'laws.FnExactSnapAll': WHATEVER THE INPUT: true; the input reads as it did. -/
def fnExactSnapAllSpec : ChangeSpec := { name := "fnExactSnapAll", fn := fun _ => fun
  | [d] => { results := [.lit (.bool true)], args := [d] }
  | _ => none }
def fnExactSnapAllRow : OpenClaim := { program := "ytkjlebfmaembiaagreat", sum := "927e859fcecb11f928cc1a42a99b6fef93eed0e9ddc26c1478d17a8afd301ab4", func := "loop.example/g00365/laws.FnExactSnapAll", spec := "fnExactSnapAll", inPlace := ["internal/bytealg.Compare", "slices.overlaps[loop.example/g00365/impl.Row]", "slices.overlaps[loop.example/g00365/impl.Last]"], unfollowed := true, recurses := true, apart := false }
def FnExactSnapAllSaid : Prop := fnExactSnapAllRow.holds Tryz.pinned (OpenSpec.ofChange fnExactSnapAllSpec)

/-- ITS FALSE NEIGHBOUR: 'it returns false'. Refute it at one input. -/
def fnExactSnapAllWrong : ChangeSpec := { name := "fnExactSnapAll", fn := fun _ => fun
  | [d] => { results := [.lit (.bool false)], args := [d] }
  | _ => none }
def FnExactSnapAllWrongFalsely : Prop := fnExactSnapAllRow.holds Tryz.pinned (OpenSpec.ofChange fnExactSnapAllWrong)

/-- 'laws.FnExactDutySync': WHATEVER THE INPUT: true; the input reads as it did. -/
def fnExactDutySyncSpec : ChangeSpec := { name := "fnExactDutySync", fn := fun _ => fun
  | [d1, d2] => { results := [.lit (.bool true)], args := [d1, d2] }
  | _ => none }
def fnExactDutySyncRow : OpenClaim := { program := "ytkjlebfmaembiaagreat", sum := "927e859fcecb11f928cc1a42a99b6fef93eed0e9ddc26c1478d17a8afd301ab4", func := "loop.example/g00365/laws.FnExactDutySync", spec := "fnExactDutySync", inPlace := ["internal/bytealg.Compare"], unfollowed := true, recurses := true, apart := false }
def FnExactDutySyncSaid : Prop := fnExactDutySyncRow.holds Tryz.pinned (OpenSpec.ofChange fnExactDutySyncSpec)

/-- ITS FALSE NEIGHBOUR: 'it returns false'. Refute it at one input. -/
def fnExactDutySyncWrong : ChangeSpec := { name := "fnExactDutySync", fn := fun _ => fun
  | [d1, d2] => { results := [.lit (.bool false)], args := [d1, d2] }
  | _ => none }
def FnExactDutySyncWrongFalsely : Prop := fnExactDutySyncRow.holds Tryz.pinned (OpenSpec.ofChange fnExactDutySyncWrong)

/-- 'laws.FnExactDutyTick': WHATEVER THE INPUT: true; the input reads as it did. -/
def fnExactDutyTickSpec : ChangeSpec := { name := "fnExactDutyTick", fn := fun _ => fun
  | [d1, d2, d3] => { results := [.lit (.bool true)], args := [d1, d2, d3] }
  | _ => none }
def fnExactDutyTickRow : OpenClaim := { program := "ytkjlebfmaembiaagreat", sum := "927e859fcecb11f928cc1a42a99b6fef93eed0e9ddc26c1478d17a8afd301ab4", func := "loop.example/g00365/laws.FnExactDutyTick", spec := "fnExactDutyTick", inPlace := ["internal/bytealg.Compare"], unfollowed := true, recurses := true, apart := false }
def FnExactDutyTickSaid : Prop := fnExactDutyTickRow.holds Tryz.pinned (OpenSpec.ofChange fnExactDutyTickSpec)

/-- ITS FALSE NEIGHBOUR: 'it returns false'. Refute it at one input. -/
def fnExactDutyTickWrong : ChangeSpec := { name := "fnExactDutyTick", fn := fun _ => fun
  | [d1, d2, d3] => { results := [.lit (.bool false)], args := [d1, d2, d3] }
  | _ => none }
def FnExactDutyTickWrongFalsely : Prop := fnExactDutyTickRow.holds Tryz.pinned (OpenSpec.ofChange fnExactDutyTickWrong)

/- THE SECOND FORM. 'bulk': how many values and letters a reading holds, each counted each time it is reached (what is shared counts as often as it is met; a slice's spare places count too). A statement '..UptoSaid' is the law's where the arguments, and the package variables that the reading takes, are together of bulk at most 1048576: NARROWER than '..Said'. Prove '..Said' where nothing that the law and all that it calls make is longer than what came in: it says more and counts as full. Else prove '..UptoSaid'. A law counts once. -/
mutual
def uptoBulk {H : Type} : DataW H → Nat
  | .lit (.string bytes) => bytes.length + 1
  | .lit _ => 1
  | .nil => 1
  | .ptr d => uptoBulk d + 1
  | .slice elems spare => uptoBulkAll elems + uptoBulkAll spare + 1
  | .agg parts => uptoBulkAll parts + 1
  | .iface _ d => uptoBulk d + 1
  | .map entries => uptoBulkEntries entries + 1
  | .held _ => 1
def uptoBulkAll {H : Type} : List (DataW H) → Nat
  | [] => 0
  | d :: r => uptoBulk d + uptoBulkAll r
def uptoBulkEntries {H : Type} : List (Lit × DataW H) → Nat
  | [] => 0
  | x :: r => uptoBulkEntry x + uptoBulkEntries r
def uptoBulkEntry {H : Type} : Lit × DataW H → Nat
  | (.string bytes, d) => bytes.length + uptoBulk d + 1
  | (_, d) => uptoBulk d + 1
 end
def uptoSmall : (H : Type) → List (DataW H) → Bool := fun _ ds => decide (uptoBulkAll ds ≤ 1048576)
def OpenSpec.upto (s : _root_.Go.ChangeSpec) : _root_.Go.OpenSpec := { _root_.Go.OpenSpec.ofChange s with cond := some uptoSmall }

/-- 'laws.FnExactApply', WHERE WHAT IT READS IS OF BULK AT MOST 1048576: true; the input reads as it did. -/
def fnExactApplyUptoRow : OpenClaim := { program := "ytkjlebfmaembiaagreat", sum := "927e859fcecb11f928cc1a42a99b6fef93eed0e9ddc26c1478d17a8afd301ab4", func := "loop.example/g00365/laws.FnExactApply", spec := "fnExactApply", inPlace := ["internal/bytealg.Compare", "slices.overlaps[loop.example/g00365/impl.Row]", "slices.overlaps[loop.example/g00365/impl.Last]"], unfollowed := true, recurses := true, apart := false, narrowed := true }
def FnExactApplyUptoSaid : Prop := fnExactApplyUptoRow.holds Tryz.pinned (OpenSpec.upto fnExactApplySpec)

/-- 'laws.FnExactSnapAdd', WHERE WHAT IT READS IS OF BULK AT MOST 1048576: true; the input reads as it did. -/
def fnExactSnapAddUptoRow : OpenClaim := { program := "ytkjlebfmaembiaagreat", sum := "927e859fcecb11f928cc1a42a99b6fef93eed0e9ddc26c1478d17a8afd301ab4", func := "loop.example/g00365/laws.FnExactSnapAdd", spec := "fnExactSnapAdd", inPlace := ["internal/bytealg.Compare"], unfollowed := true, recurses := true, apart := false, narrowed := true }
def FnExactSnapAddUptoSaid : Prop := fnExactSnapAddUptoRow.holds Tryz.pinned (OpenSpec.upto fnExactSnapAddSpec)

/-- 'laws.FnExactSnapOf', WHERE WHAT IT READS IS OF BULK AT MOST 1048576: true; the input reads as it did. -/
def fnExactSnapOfUptoRow : OpenClaim := { program := "ytkjlebfmaembiaagreat", sum := "927e859fcecb11f928cc1a42a99b6fef93eed0e9ddc26c1478d17a8afd301ab4", func := "loop.example/g00365/laws.FnExactSnapOf", spec := "fnExactSnapOf", inPlace := ["internal/bytealg.Compare", "slices.overlaps[loop.example/g00365/impl.Row]", "slices.overlaps[loop.example/g00365/impl.Last]"], unfollowed := true, recurses := true, apart := false, narrowed := true }
def FnExactSnapOfUptoSaid : Prop := fnExactSnapOfUptoRow.holds Tryz.pinned (OpenSpec.upto fnExactSnapOfSpec)

/-- 'laws.FnExactSnapAll', WHERE WHAT IT READS IS OF BULK AT MOST 1048576: true; the input reads as it did. -/
def fnExactSnapAllUptoRow : OpenClaim := { program := "ytkjlebfmaembiaagreat", sum := "927e859fcecb11f928cc1a42a99b6fef93eed0e9ddc26c1478d17a8afd301ab4", func := "loop.example/g00365/laws.FnExactSnapAll", spec := "fnExactSnapAll", inPlace := ["internal/bytealg.Compare", "slices.overlaps[loop.example/g00365/impl.Row]", "slices.overlaps[loop.example/g00365/impl.Last]"], unfollowed := true, recurses := true, apart := false, narrowed := true }
def FnExactSnapAllUptoSaid : Prop := fnExactSnapAllUptoRow.holds Tryz.pinned (OpenSpec.upto fnExactSnapAllSpec)

/-- 'laws.FnExactDutySync', WHERE WHAT IT READS IS OF BULK AT MOST 1048576: true; the input reads as it did. -/
def fnExactDutySyncUptoRow : OpenClaim := { program := "ytkjlebfmaembiaagreat", sum := "927e859fcecb11f928cc1a42a99b6fef93eed0e9ddc26c1478d17a8afd301ab4", func := "loop.example/g00365/laws.FnExactDutySync", spec := "fnExactDutySync", inPlace := ["internal/bytealg.Compare"], unfollowed := true, recurses := true, apart := false, narrowed := true }
def FnExactDutySyncUptoSaid : Prop := fnExactDutySyncUptoRow.holds Tryz.pinned (OpenSpec.upto fnExactDutySyncSpec)

/-- 'laws.FnExactDutyTick', WHERE WHAT IT READS IS OF BULK AT MOST 1048576: true; the input reads as it did. -/
def fnExactDutyTickUptoRow : OpenClaim := { program := "ytkjlebfmaembiaagreat", sum := "927e859fcecb11f928cc1a42a99b6fef93eed0e9ddc26c1478d17a8afd301ab4", func := "loop.example/g00365/laws.FnExactDutyTick", spec := "fnExactDutyTick", inPlace := ["internal/bytealg.Compare"], unfollowed := true, recurses := true, apart := false, narrowed := true }
def FnExactDutyTickUptoSaid : Prop := fnExactDutyTickUptoRow.holds Tryz.pinned (OpenSpec.upto fnExactDutyTickSpec)

end Rows
end Go.Proofs.YtkjlebfmaembiaaGreat
