/-
  No cell of these rows narrows 'for every input' (looked for: loops, veiled, ifaces, maps, wideKeys, modest, calm, conditions, laid).
  DERIVED. THE GIVEN ROWS OF THIS SEAT. 7 by the template 'for every input the law returns true; each argument reads behind the call as it read before'; 0 by the template 'total and deterministic' (their statements: YtpcbeplajmkgpaaGreatTotals.lean).
  GIVEN WITH THE SEED: the statements are not yours to turn. If you find one false, say at which input.
  Laid BY PROGRAM, IN A SANDBOX (cutbox-rows.mjs): the forced cells as the released guide's own fill.sh prints them over the translation 4d6bdfa6a65f239d… (all of the seat's roots in one cut). By AI agents, Wed Nov 11 2026. No macro, syntax, notation, axiom, sorry.
-/
import Derived.Test.YtpcbeplajmkgpaaGreatChecked
import GoSem.Claim
import GoSem.ClaimJoined
import GoSem.ClaimMapViews
import Derived.JoinedTies
import Derived.KernelRfl
namespace Go.Proofs.YtpcbeplajmkgpaaGreat
/- THE CELL 'sum', in the pinned program and in every row, IS THE sha256 OF THE DUMP (.gsa) THAT YtpcbeplajmkgpaaGreatProg.lean LOADS. Nothing in Lean hashes anything: it is a label: what it is worth is what the hold of that sum in a sandbox is worth. -/
noncomputable def Tryz.pinned : Pinned := { name := "ytpcbeplajmkgpaagreat", sum := "4d6bdfa6a65f239dcf8f5d3591fc6ff7eeaa3b3325ad57832a5f459f98e3fbb8", checked := Tryz.checked }
namespace Rows
def none {H : Type} : Left H := { results := [], args := [] }

/-- 'laws.FnExactSnapAdd': WHATEVER THE INPUT: true; the input reads as it did. -/
def fnExactSnapAddSpec : ChangeSpec := { name := "fnExactSnapAdd", fn := fun _ => fun
  | [d1, d2] => { results := [.lit (.bool true)], args := [d1, d2] }
  | _ => none }
def fnExactSnapAddRow : OpenClaim := { program := "ytpcbeplajmkgpaagreat", sum := "4d6bdfa6a65f239dcf8f5d3591fc6ff7eeaa3b3325ad57832a5f459f98e3fbb8", func := "loop.example/g00365/laws.FnExactSnapAdd", spec := "fnExactSnapAdd", inPlace := ["internal/bytealg.Compare"], unfollowed := true, recurses := true, apart := false }
def FnExactSnapAddSaid : Prop := fnExactSnapAddRow.holds Tryz.pinned (OpenSpec.ofChange fnExactSnapAddSpec)

/-- ITS FALSE NEIGHBOUR: 'it returns false'. Refute it at one input. -/
def fnExactSnapAddWrong : ChangeSpec := { name := "fnExactSnapAdd", fn := fun _ => fun
  | [d1, d2] => { results := [.lit (.bool false)], args := [d1, d2] }
  | _ => none }
def FnExactSnapAddWrongFalsely : Prop := fnExactSnapAddRow.holds Tryz.pinned (OpenSpec.ofChange fnExactSnapAddWrong)

/-- 'laws.FnExactSnapOf': WHATEVER THE INPUT: true; the input reads as it did. -/
def fnExactSnapOfSpec : ChangeSpec := { name := "fnExactSnapOf", fn := fun _ => fun
  | [d1, d2] => { results := [.lit (.bool true)], args := [d1, d2] }
  | _ => none }
def fnExactSnapOfRow : OpenClaim := { program := "ytpcbeplajmkgpaagreat", sum := "4d6bdfa6a65f239dcf8f5d3591fc6ff7eeaa3b3325ad57832a5f459f98e3fbb8", func := "loop.example/g00365/laws.FnExactSnapOf", spec := "fnExactSnapOf", inPlace := ["internal/bytealg.Compare", "slices.overlaps[loop.example/g00365/impl.Row]", "slices.overlaps[loop.example/g00365/impl.Last]"], unfollowed := true, recurses := true, apart := false }
def FnExactSnapOfSaid : Prop := fnExactSnapOfRow.holds Tryz.pinned (OpenSpec.ofChange fnExactSnapOfSpec)

/-- ITS FALSE NEIGHBOUR: 'it returns false'. Refute it at one input. -/
def fnExactSnapOfWrong : ChangeSpec := { name := "fnExactSnapOf", fn := fun _ => fun
  | [d1, d2] => { results := [.lit (.bool false)], args := [d1, d2] }
  | _ => none }
def FnExactSnapOfWrongFalsely : Prop := fnExactSnapOfRow.holds Tryz.pinned (OpenSpec.ofChange fnExactSnapOfWrong)

/-- 'laws.FnFollows': WHATEVER THE INPUT: true; the input reads as it did. -/
def fnFollowsSpec : ChangeSpec := { name := "fnFollows", fn := fun _ => fun
  | [d] => { results := [.lit (.bool true)], args := [d] }
  | _ => none }
def fnFollowsRow : OpenClaim := { program := "ytpcbeplajmkgpaagreat", sum := "4d6bdfa6a65f239dcf8f5d3591fc6ff7eeaa3b3325ad57832a5f459f98e3fbb8", func := "loop.example/g00365/laws.FnFollows", spec := "fnFollows", inPlace := ["internal/bytealg.Compare", "slices.overlaps[loop.example/g00365/impl.Row]", "slices.overlaps[loop.example/g00365/impl.Last]"], unfollowed := true, recurses := true, apart := false }
def FnFollowsSaid : Prop := fnFollowsRow.holds Tryz.pinned (OpenSpec.ofChange fnFollowsSpec)

/-- ITS FALSE NEIGHBOUR: 'it returns false'. Refute it at one input. -/
def fnFollowsWrong : ChangeSpec := { name := "fnFollows", fn := fun _ => fun
  | [d] => { results := [.lit (.bool false)], args := [d] }
  | _ => none }
def FnFollowsWrongFalsely : Prop := fnFollowsRow.holds Tryz.pinned (OpenSpec.ofChange fnFollowsWrong)

/-- 'laws.FnExactApply': WHATEVER THE INPUT: true; the input reads as it did. -/
def fnExactApplySpec : ChangeSpec := { name := "fnExactApply", fn := fun _ => fun
  | [d1, d2] => { results := [.lit (.bool true)], args := [d1, d2] }
  | _ => none }
def fnExactApplyRow : OpenClaim := { program := "ytpcbeplajmkgpaagreat", sum := "4d6bdfa6a65f239dcf8f5d3591fc6ff7eeaa3b3325ad57832a5f459f98e3fbb8", func := "loop.example/g00365/laws.FnExactApply", spec := "fnExactApply", inPlace := ["internal/bytealg.Compare", "slices.overlaps[loop.example/g00365/impl.Row]", "slices.overlaps[loop.example/g00365/impl.Last]"], unfollowed := true, recurses := true, apart := false }
def FnExactApplySaid : Prop := fnExactApplyRow.holds Tryz.pinned (OpenSpec.ofChange fnExactApplySpec)

/-- ITS FALSE NEIGHBOUR: 'it returns false'. Refute it at one input. -/
def fnExactApplyWrong : ChangeSpec := { name := "fnExactApply", fn := fun _ => fun
  | [d1, d2] => { results := [.lit (.bool false)], args := [d1, d2] }
  | _ => none }
def FnExactApplyWrongFalsely : Prop := fnExactApplyRow.holds Tryz.pinned (OpenSpec.ofChange fnExactApplyWrong)

/-- 'laws.FnExactSnapAll': WHATEVER THE INPUT: true; the input reads as it did. -/
def fnExactSnapAllSpec : ChangeSpec := { name := "fnExactSnapAll", fn := fun _ => fun
  | [d] => { results := [.lit (.bool true)], args := [d] }
  | _ => none }
def fnExactSnapAllRow : OpenClaim := { program := "ytpcbeplajmkgpaagreat", sum := "4d6bdfa6a65f239dcf8f5d3591fc6ff7eeaa3b3325ad57832a5f459f98e3fbb8", func := "loop.example/g00365/laws.FnExactSnapAll", spec := "fnExactSnapAll", inPlace := ["internal/bytealg.Compare", "slices.overlaps[loop.example/g00365/impl.Row]", "slices.overlaps[loop.example/g00365/impl.Last]"], unfollowed := true, recurses := true, apart := false }
def FnExactSnapAllSaid : Prop := fnExactSnapAllRow.holds Tryz.pinned (OpenSpec.ofChange fnExactSnapAllSpec)

/-- ITS FALSE NEIGHBOUR: 'it returns false'. Refute it at one input. -/
def fnExactSnapAllWrong : ChangeSpec := { name := "fnExactSnapAll", fn := fun _ => fun
  | [d] => { results := [.lit (.bool false)], args := [d] }
  | _ => none }
def FnExactSnapAllWrongFalsely : Prop := fnExactSnapAllRow.holds Tryz.pinned (OpenSpec.ofChange fnExactSnapAllWrong)

/-- 'laws.FnSnaps': WHATEVER THE INPUT: true; the input reads as it did. -/
def fnSnapsSpec : ChangeSpec := { name := "fnSnaps", fn := fun _ => fun
  | [d] => { results := [.lit (.bool true)], args := [d] }
  | _ => none }
def fnSnapsRow : OpenClaim := { program := "ytpcbeplajmkgpaagreat", sum := "4d6bdfa6a65f239dcf8f5d3591fc6ff7eeaa3b3325ad57832a5f459f98e3fbb8", func := "loop.example/g00365/laws.FnSnaps", spec := "fnSnaps", inPlace := ["internal/bytealg.Compare", "slices.overlaps[loop.example/g00365/impl.Row]", "slices.overlaps[loop.example/g00365/impl.Last]"], unfollowed := true, recurses := true, apart := false }
def FnSnapsSaid : Prop := fnSnapsRow.holds Tryz.pinned (OpenSpec.ofChange fnSnapsSpec)

/-- ITS FALSE NEIGHBOUR: 'it returns false'. Refute it at one input. -/
def fnSnapsWrong : ChangeSpec := { name := "fnSnaps", fn := fun _ => fun
  | [d] => { results := [.lit (.bool false)], args := [d] }
  | _ => none }
def FnSnapsWrongFalsely : Prop := fnSnapsRow.holds Tryz.pinned (OpenSpec.ofChange fnSnapsWrong)

/-- 'laws.FnPlans': WHATEVER THE INPUT: true; the input reads as it did. -/
def fnPlansSpec : ChangeSpec := { name := "fnPlans", fn := fun _ => fun
  | [d] => { results := [.lit (.bool true)], args := [d] }
  | _ => none }
def fnPlansRow : OpenClaim := { program := "ytpcbeplajmkgpaagreat", sum := "4d6bdfa6a65f239dcf8f5d3591fc6ff7eeaa3b3325ad57832a5f459f98e3fbb8", func := "loop.example/g00365/laws.FnPlans", spec := "fnPlans", inPlace := ["internal/bytealg.Compare", "slices.overlaps[loop.example/g00365/impl.Row]", "slices.overlaps[loop.example/g00365/impl.Last]"], unfollowed := true, recurses := true, apart := false }
def FnPlansSaid : Prop := fnPlansRow.holds Tryz.pinned (OpenSpec.ofChange fnPlansSpec)

/-- ITS FALSE NEIGHBOUR: 'it returns false'. Refute it at one input. -/
def fnPlansWrong : ChangeSpec := { name := "fnPlans", fn := fun _ => fun
  | [d] => { results := [.lit (.bool false)], args := [d] }
  | _ => none }
def FnPlansWrongFalsely : Prop := fnPlansRow.holds Tryz.pinned (OpenSpec.ofChange fnPlansWrong)

/- THE SECOND FORM. 'bulk': how many values and letters a reading holds, each counted each time it is reached (what is shared counts as often as it is met; a slice's spare places count too). A statement '..UptoSaid' is the law's where the arguments, and the package variables that the reading takes, are together of bulk at most 1048576: NARROWER than '..Said'. Prove '..Said' where nothing that the law and all that it calls make is longer than what came in: it says more and counts as full. Else prove '..UptoSaid'. A law counts once. -/
mutual
def uptoBulk {H : Type} : DataW H → Nat
  | .lit (.string bytes) => bytes.length + 1
  | .lit _ => 1
  | .nil => 1
  | .ptr d => uptoBulk d + 1
  | .slice elems spare => uptoBulkAll elems + uptoBulkAll spare + 1
  | .agg parts => uptoBulkAll parts + 1
  | .iface _ d => uptoBulk d + 1
  | .map entries => uptoBulkEntries entries + 1
  | .held _ => 1
def uptoBulkAll {H : Type} : List (DataW H) → Nat
  | [] => 0
  | d :: r => uptoBulk d + uptoBulkAll r
def uptoBulkEntries {H : Type} : List (Lit × DataW H) → Nat
  | [] => 0
  | x :: r => uptoBulkEntry x + uptoBulkEntries r
def uptoBulkEntry {H : Type} : Lit × DataW H → Nat
  | (.string bytes, d) => bytes.length + uptoBulk d + 1
  | (_, d) => uptoBulk d + 1
 end
def uptoSmall : (H : Type) → List (DataW H) → Bool := fun _ ds => decide (uptoBulkAll ds ≤ 1048576)
def OpenSpec.upto (s : _root_.Go.ChangeSpec) : _root_.Go.OpenSpec := { _root_.Go.OpenSpec.ofChange s with cond := some uptoSmall }

/-- 'laws.FnExactSnapAdd', WHERE WHAT IT READS IS OF BULK AT MOST 1048576: true; the input reads as it did. -/
def fnExactSnapAddUptoRow : OpenClaim := { program := "ytpcbeplajmkgpaagreat", sum := "4d6bdfa6a65f239dcf8f5d3591fc6ff7eeaa3b3325ad57832a5f459f98e3fbb8", func := "loop.example/g00365/laws.FnExactSnapAdd", spec := "fnExactSnapAdd", inPlace := ["internal/bytealg.Compare"], unfollowed := true, recurses := true, apart := false, narrowed := true }
def FnExactSnapAddUptoSaid : Prop := fnExactSnapAddUptoRow.holds Tryz.pinned (OpenSpec.upto fnExactSnapAddSpec)

/-- 'laws.FnExactSnapOf', WHERE WHAT IT READS IS OF BULK AT MOST 1048576: true; the input reads as it did. -/
def fnExactSnapOfUptoRow : OpenClaim := { program := "ytpcbeplajmkgpaagreat", sum := "4d6bdfa6a65f239dcf8f5d3591fc6ff7eeaa3b3325ad57832a5f459f98e3fbb8", func := "loop.example/g00365/laws.FnExactSnapOf", spec := "fnExactSnapOf", inPlace := ["internal/bytealg.Compare", "slices.overlaps[loop.example/g00365/impl.Row]", "slices.overlaps[loop.example/g00365/impl.Last]"], unfollowed := true, recurses := true, apart := false, narrowed := true }
def FnExactSnapOfUptoSaid : Prop := fnExactSnapOfUptoRow.holds Tryz.pinned (OpenSpec.upto fnExactSnapOfSpec)

/-- 'laws.FnFollows', WHERE WHAT IT READS IS OF BULK AT MOST 1048576: true; the input reads as it did. -/
def fnFollowsUptoRow : OpenClaim := { program := "ytpcbeplajmkgpaagreat", sum := "4d6bdfa6a65f239dcf8f5d3591fc6ff7eeaa3b3325ad57832a5f459f98e3fbb8", func := "loop.example/g00365/laws.FnFollows", spec := "fnFollows", inPlace := ["internal/bytealg.Compare", "slices.overlaps[loop.example/g00365/impl.Row]", "slices.overlaps[loop.example/g00365/impl.Last]"], unfollowed := true, recurses := true, apart := false, narrowed := true }
def FnFollowsUptoSaid : Prop := fnFollowsUptoRow.holds Tryz.pinned (OpenSpec.upto fnFollowsSpec)

/-- 'laws.FnExactApply', WHERE WHAT IT READS IS OF BULK AT MOST 1048576: true; the input reads as it did. -/
def fnExactApplyUptoRow : OpenClaim := { program := "ytpcbeplajmkgpaagreat", sum := "4d6bdfa6a65f239dcf8f5d3591fc6ff7eeaa3b3325ad57832a5f459f98e3fbb8", func := "loop.example/g00365/laws.FnExactApply", spec := "fnExactApply", inPlace := ["internal/bytealg.Compare", "slices.overlaps[loop.example/g00365/impl.Row]", "slices.overlaps[loop.example/g00365/impl.Last]"], unfollowed := true, recurses := true, apart := false, narrowed := true }
def FnExactApplyUptoSaid : Prop := fnExactApplyUptoRow.holds Tryz.pinned (OpenSpec.upto fnExactApplySpec)

/-- 'laws.FnExactSnapAll', WHERE WHAT IT READS IS OF BULK AT MOST 1048576: true; the input reads as it did. -/
def fnExactSnapAllUptoRow : OpenClaim := { program := "ytpcbeplajmkgpaagreat", sum := "4d6bdfa6a65f239dcf8f5d3591fc6ff7eeaa3b3325ad57832a5f459f98e3fbb8", func := "loop.example/g00365/laws.FnExactSnapAll", spec := "fnExactSnapAll", inPlace := ["internal/bytealg.Compare", "slices.overlaps[loop.example/g00365/impl.Row]", "slices.overlaps[loop.example/g00365/impl.Last]"], unfollowed := true, recurses := true, apart := false, narrowed := true }
def FnExactSnapAllUptoSaid : Prop := fnExactSnapAllUptoRow.holds Tryz.pinned (OpenSpec.upto fnExactSnapAllSpec)

/-- 'laws.FnSnaps', WHERE WHAT IT READS IS OF BULK AT MOST 1048576: true; the input reads as it did. -/
def fnSnapsUptoRow : OpenClaim := { program := "ytpcbeplajmkgpaagreat", sum := "4d6bdfa6a65f239dcf8f5d3591fc6ff7eeaa3b3325ad57832a5f459f98e3fbb8", func := "loop.example/g00365/laws.FnSnaps", spec := "fnSnaps", inPlace := ["internal/bytealg.Compare", "slices.overlaps[loop.example/g00365/impl.Row]", "slices.overlaps[loop.example/g00365/impl.Last]"], unfollowed := true, recurses := true, apart := false, narrowed := true }
def FnSnapsUptoSaid : Prop := fnSnapsUptoRow.holds Tryz.pinned (OpenSpec.upto fnSnapsSpec)

/-- 'laws.FnPlans', WHERE WHAT IT READS IS OF BULK AT MOST 1048576: true; the input reads as it did. -/
def fnPlansUptoRow : OpenClaim := { program := "ytpcbeplajmkgpaagreat", sum := "4d6bdfa6a65f239dcf8f5d3591fc6ff7eeaa3b3325ad57832a5f459f98e3fbb8", func := "loop.example/g00365/laws.FnPlans", spec := "fnPlans", inPlace := ["internal/bytealg.Compare", "slices.overlaps[loop.example/g00365/impl.Row]", "slices.overlaps[loop.example/g00365/impl.Last]"], unfollowed := true, recurses := true, apart := false, narrowed := true }
def FnPlansUptoSaid : Prop := fnPlansUptoRow.holds Tryz.pinned (OpenSpec.upto fnPlansSpec)

end Rows
end Go.Proofs.YtpcbeplajmkgpaaGreat
