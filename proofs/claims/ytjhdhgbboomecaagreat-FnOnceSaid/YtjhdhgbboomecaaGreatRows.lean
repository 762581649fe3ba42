/-
  No cell of these rows narrows 'for every input' (looked for: loops, veiled, ifaces, maps, wideKeys, modest, calm, conditions, laid).
  DERIVED. THE GIVEN ROWS OF THIS SEAT. 6 by the template 'for every input the law returns true; each argument reads behind the call as it read before'; 0 by the template 'total and deterministic' (their statements: YtjhdhgbboomecaaGreatTotals.lean).
  GIVEN WITH THE SEED: the statements are not yours to turn. If you find one false, say at which input.
  Laid BY PROGRAM, IN A SANDBOX (cutbox-rows.mjs): the forced cells as the released guide's own fill.sh prints them over the translation 5779c89042c7dbb2… (all of the seat's roots in one cut). By AI agents, Wed Nov 11 2026. No macro, syntax, notation, axiom, sorry.
-/
import Derived.Test.YtjhdhgbboomecaaGreatChecked
import GoSem.Claim
import GoSem.ClaimJoined
import GoSem.ClaimMapViews
import Derived.JoinedTies
import Derived.KernelRfl
namespace Go.Proofs.YtjhdhgbboomecaaGreat
/- THE CELL 'sum', in the pinned program and in every row, IS THE sha256 OF THE DUMP (.gsa) THAT YtjhdhgbboomecaaGreatProg.lean LOADS. Nothing in Lean hashes anything: it is a label: what it is worth is what the hold of that sum in a sandbox is worth. -/
noncomputable def Tryz.pinned : Pinned := { name := "ytjhdhgbboomecaagreat", sum := "5779c89042c7dbb247b438f6dc9f69335db34ba5126ccec64af31413d820e6ab", checked := Tryz.checked }
namespace Rows
def none {H : Type} : Left H := { results := [], args := [] }

/-- 'laws.FnSets': WHATEVER THE INPUT: true; the input reads as it did. -/
def fnSetsSpec : ChangeSpec := { name := "fnSets", fn := fun _ => fun
  | [d] => { results := [.lit (.bool true)], args := [d] }
  | _ => none }
def fnSetsRow : OpenClaim := { program := "ytjhdhgbboomecaagreat", sum := "5779c89042c7dbb247b438f6dc9f69335db34ba5126ccec64af31413d820e6ab", func := "loop.example/g00365/laws.FnSets", spec := "fnSets", inPlace := ["internal/bytealg.Compare", "slices.overlaps[loop.example/g00365/impl.Row]", "slices.overlaps[loop.example/g00365/impl.Last]"], unfollowed := true, recurses := true, apart := false }
def FnSetsSaid : Prop := fnSetsRow.holds Tryz.pinned (OpenSpec.ofChange fnSetsSpec)

/-- ITS FALSE NEIGHBOUR: 'it returns false'. Refute it at one input. -/
def fnSetsWrong : ChangeSpec := { name := "fnSets", fn := fun _ => fun
  | [d] => { results := [.lit (.bool false)], args := [d] }
  | _ => none }
def FnSetsWrongFalsely : Prop := fnSetsRow.holds Tryz.pinned (OpenSpec.ofChange fnSetsWrong)

/-- 'laws.FnLooks': WHATEVER THE INPUT: true; the input reads as it did. -/
def fnLooksSpec : ChangeSpec := { name := "fnLooks", fn := fun _ => fun
  | [d] => { results := [.lit (.bool true)], args := [d] }
  | _ => none }
def fnLooksRow : OpenClaim := { program := "ytjhdhgbboomecaagreat", sum := "5779c89042c7dbb247b438f6dc9f69335db34ba5126ccec64af31413d820e6ab", func := "loop.example/g00365/laws.FnLooks", spec := "fnLooks", inPlace := ["internal/bytealg.Compare", "slices.overlaps[loop.example/g00365/impl.Row]", "slices.overlaps[loop.example/g00365/impl.Last]"], unfollowed := true, recurses := true, apart := false }
def FnLooksSaid : Prop := fnLooksRow.holds Tryz.pinned (OpenSpec.ofChange fnLooksSpec)

/-- ITS FALSE NEIGHBOUR: 'it returns false'. Refute it at one input. -/
def fnLooksWrong : ChangeSpec := { name := "fnLooks", fn := fun _ => fun
  | [d] => { results := [.lit (.bool false)], args := [d] }
  | _ => none }
def FnLooksWrongFalsely : Prop := fnLooksRow.holds Tryz.pinned (OpenSpec.ofChange fnLooksWrong)

/-- 'laws.FnHelds': WHATEVER THE INPUT: true; the input reads as it did. -/
def fnHeldsSpec : ChangeSpec := { name := "fnHelds", fn := fun _ => fun
  | [d] => { results := [.lit (.bool true)], args := [d] }
  | _ => none }
def fnHeldsRow : OpenClaim := { program := "ytjhdhgbboomecaagreat", sum := "5779c89042c7dbb247b438f6dc9f69335db34ba5126ccec64af31413d820e6ab", func := "loop.example/g00365/laws.FnHelds", spec := "fnHelds", inPlace := ["internal/bytealg.Compare", "slices.overlaps[loop.example/g00365/impl.Row]", "slices.overlaps[loop.example/g00365/impl.Last]"], unfollowed := true, recurses := true, apart := false }
def FnHeldsSaid : Prop := fnHeldsRow.holds Tryz.pinned (OpenSpec.ofChange fnHeldsSpec)

/-- ITS FALSE NEIGHBOUR: 'it returns false'. Refute it at one input. -/
def fnHeldsWrong : ChangeSpec := { name := "fnHelds", fn := fun _ => fun
  | [d] => { results := [.lit (.bool false)], args := [d] }
  | _ => none }
def FnHeldsWrongFalsely : Prop := fnHeldsRow.holds Tryz.pinned (OpenSpec.ofChange fnHeldsWrong)

/-- 'laws.FnLocks': WHATEVER THE INPUT: true; the input reads as it did. -/
def fnLocksSpec : ChangeSpec := { name := "fnLocks", fn := fun _ => fun
  | [d] => { results := [.lit (.bool true)], args := [d] }
  | _ => none }
def fnLocksRow : OpenClaim := { program := "ytjhdhgbboomecaagreat", sum := "5779c89042c7dbb247b438f6dc9f69335db34ba5126ccec64af31413d820e6ab", func := "loop.example/g00365/laws.FnLocks", spec := "fnLocks", inPlace := ["internal/bytealg.Compare", "slices.overlaps[loop.example/g00365/impl.Row]", "slices.overlaps[loop.example/g00365/impl.Last]"], unfollowed := true, recurses := true, apart := false }
def FnLocksSaid : Prop := fnLocksRow.holds Tryz.pinned (OpenSpec.ofChange fnLocksSpec)

/-- ITS FALSE NEIGHBOUR: 'it returns false'. Refute it at one input. -/
def fnLocksWrong : ChangeSpec := { name := "fnLocks", fn := fun _ => fun
  | [d] => { results := [.lit (.bool false)], args := [d] }
  | _ => none }
def FnLocksWrongFalsely : Prop := fnLocksRow.holds Tryz.pinned (OpenSpec.ofChange fnLocksWrong)

/-- 'laws.FnShuts': WHATEVER THE INPUT: true; the input reads as it did. -/
def fnShutsSpec : ChangeSpec := { name := "fnShuts", fn := fun _ => fun
  | [d] => { results := [.lit (.bool true)], args := [d] }
  | _ => none }
def fnShutsRow : OpenClaim := { program := "ytjhdhgbboomecaagreat", sum := "5779c89042c7dbb247b438f6dc9f69335db34ba5126ccec64af31413d820e6ab", func := "loop.example/g00365/laws.FnShuts", spec := "fnShuts", inPlace := ["internal/bytealg.Compare", "slices.overlaps[loop.example/g00365/impl.Row]", "slices.overlaps[loop.example/g00365/impl.Last]"], unfollowed := true, recurses := true, apart := false }
def FnShutsSaid : Prop := fnShutsRow.holds Tryz.pinned (OpenSpec.ofChange fnShutsSpec)

/-- ITS FALSE NEIGHBOUR: 'it returns false'. Refute it at one input. -/
def fnShutsWrong : ChangeSpec := { name := "fnShuts", fn := fun _ => fun
  | [d] => { results := [.lit (.bool false)], args := [d] }
  | _ => none }
def FnShutsWrongFalsely : Prop := fnShutsRow.holds Tryz.pinned (OpenSpec.ofChange fnShutsWrong)

/-- 'laws.FnOnce': WHATEVER THE INPUT: true; the input reads as it did. -/
def fnOnceSpec : ChangeSpec := { name := "fnOnce", fn := fun _ => fun
  | [d] => { results := [.lit (.bool true)], args := [d] }
  | _ => none }
def fnOnceRow : OpenClaim := { program := "ytjhdhgbboomecaagreat", sum := "5779c89042c7dbb247b438f6dc9f69335db34ba5126ccec64af31413d820e6ab", func := "loop.example/g00365/laws.FnOnce", spec := "fnOnce", inPlace := ["internal/bytealg.Compare", "slices.overlaps[loop.example/g00365/impl.Row]", "slices.overlaps[loop.example/g00365/impl.Last]"], unfollowed := true, recurses := true, apart := false }
def FnOnceSaid : Prop := fnOnceRow.holds Tryz.pinned (OpenSpec.ofChange fnOnceSpec)

/-- ITS FALSE NEIGHBOUR: 'it returns false'. Refute it at one input. -/
def fnOnceWrong : ChangeSpec := { name := "fnOnce", fn := fun _ => fun
  | [d] => { results := [.lit (.bool false)], args := [d] }
  | _ => none }
def FnOnceWrongFalsely : Prop := fnOnceRow.holds Tryz.pinned (OpenSpec.ofChange fnOnceWrong)

/- THE SECOND FORM. 'bulk': how many values and letters a reading holds, each counted each time it is reached (what is shared counts as often as it is met; a slice's spare places count too). A statement '..UptoSaid' is the law's where the arguments, and the package variables that the reading takes, are together of bulk at most 1048576: NARROWER than '..Said'. Prove '..Said' where nothing that the law and all that it calls make is longer than what came in: it says more and counts as full. Else prove '..UptoSaid'. A law counts once. -/
mutual
def uptoBulk {H : Type} : DataW H → Nat
  | .lit (.string bytes) => bytes.length + 1
  | .lit _ => 1
  | .nil => 1
  | .ptr d => uptoBulk d + 1
  | .slice elems spare => uptoBulkAll elems + uptoBulkAll spare + 1
  | .agg parts => uptoBulkAll parts + 1
  | .iface _ d => uptoBulk d + 1
  | .map entries => uptoBulkEntries entries + 1
  | .held _ => 1
def uptoBulkAll {H : Type} : List (DataW H) → Nat
  | [] => 0
  | d :: r => uptoBulk d + uptoBulkAll r
def uptoBulkEntries {H : Type} : List (Lit × DataW H) → Nat
  | [] => 0
  | x :: r => uptoBulkEntry x + uptoBulkEntries r
def uptoBulkEntry {H : Type} : Lit × DataW H → Nat
  | (.string bytes, d) => bytes.length + uptoBulk d + 1
  | (_, d) => uptoBulk d + 1
 end
def uptoSmall : (H : Type) → List (DataW H) → Bool := fun _ ds => decide (uptoBulkAll ds ≤ 1048576)
def OpenSpec.upto (s : _root_.Go.ChangeSpec) : _root_.Go.OpenSpec := { _root_.Go.OpenSpec.ofChange s with cond := some uptoSmall }

/-- 'laws.FnSets', WHERE WHAT IT READS IS OF BULK AT MOST 1048576: true; the input reads as it did. -/
def fnSetsUptoRow : OpenClaim := { program := "ytjhdhgbboomecaagreat", sum := "5779c89042c7dbb247b438f6dc9f69335db34ba5126ccec64af31413d820e6ab", func := "loop.example/g00365/laws.FnSets", spec := "fnSets", inPlace := ["internal/bytealg.Compare", "slices.overlaps[loop.example/g00365/impl.Row]", "slices.overlaps[loop.example/g00365/impl.Last]"], unfollowed := true, recurses := true, apart := false, narrowed := true }
def FnSetsUptoSaid : Prop := fnSetsUptoRow.holds Tryz.pinned (OpenSpec.upto fnSetsSpec)

/-- 'laws.FnLooks', WHERE WHAT IT READS IS OF BULK AT MOST 1048576: true; the input reads as it did. -/
def fnLooksUptoRow : OpenClaim := { program := "ytjhdhgbboomecaagreat", sum := "5779c89042c7dbb247b438f6dc9f69335db34ba5126ccec64af31413d820e6ab", func := "loop.example/g00365/laws.FnLooks", spec := "fnLooks", inPlace := ["internal/bytealg.Compare", "slices.overlaps[loop.example/g00365/impl.Row]", "slices.overlaps[loop.example/g00365/impl.Last]"], unfollowed := true, recurses := true, apart := false, narrowed := true }
def FnLooksUptoSaid : Prop := fnLooksUptoRow.holds Tryz.pinned (OpenSpec.upto fnLooksSpec)

/-- 'laws.FnHelds', WHERE WHAT IT READS IS OF BULK AT MOST 1048576: true; the input reads as it did. -/
def fnHeldsUptoRow : OpenClaim := { program := "ytjhdhgbboomecaagreat", sum := "5779c89042c7dbb247b438f6dc9f69335db34ba5126ccec64af31413d820e6ab", func := "loop.example/g00365/laws.FnHelds", spec := "fnHelds", inPlace := ["internal/bytealg.Compare", "slices.overlaps[loop.example/g00365/impl.Row]", "slices.overlaps[loop.example/g00365/impl.Last]"], unfollowed := true, recurses := true, apart := false, narrowed := true }
def FnHeldsUptoSaid : Prop := fnHeldsUptoRow.holds Tryz.pinned (OpenSpec.upto fnHeldsSpec)

/-- 'laws.FnLocks', WHERE WHAT IT READS IS OF BULK AT MOST 1048576: true; the input reads as it did. -/
def fnLocksUptoRow : OpenClaim := { program := "ytjhdhgbboomecaagreat", sum := "5779c89042c7dbb247b438f6dc9f69335db34ba5126ccec64af31413d820e6ab", func := "loop.example/g00365/laws.FnLocks", spec := "fnLocks", inPlace := ["internal/bytealg.Compare", "slices.overlaps[loop.example/g00365/impl.Row]", "slices.overlaps[loop.example/g00365/impl.Last]"], unfollowed := true, recurses := true, apart := false, narrowed := true }
def FnLocksUptoSaid : Prop := fnLocksUptoRow.holds Tryz.pinned (OpenSpec.upto fnLocksSpec)

/-- 'laws.FnShuts', WHERE WHAT IT READS IS OF BULK AT MOST 1048576: true; the input reads as it did. -/
def fnShutsUptoRow : OpenClaim := { program := "ytjhdhgbboomecaagreat", sum := "5779c89042c7dbb247b438f6dc9f69335db34ba5126ccec64af31413d820e6ab", func := "loop.example/g00365/laws.FnShuts", spec := "fnShuts", inPlace := ["internal/bytealg.Compare", "slices.overlaps[loop.example/g00365/impl.Row]", "slices.overlaps[loop.example/g00365/impl.Last]"], unfollowed := true, recurses := true, apart := false, narrowed := true }
def FnShutsUptoSaid : Prop := fnShutsUptoRow.holds Tryz.pinned (OpenSpec.upto fnShutsSpec)

/-- 'laws.FnOnce', WHERE WHAT IT READS IS OF BULK AT MOST 1048576: true; the input reads as it did. -/
def fnOnceUptoRow : OpenClaim := { program := "ytjhdhgbboomecaagreat", sum := "5779c89042c7dbb247b438f6dc9f69335db34ba5126ccec64af31413d820e6ab", func := "loop.example/g00365/laws.FnOnce", spec := "fnOnce", inPlace := ["internal/bytealg.Compare", "slices.overlaps[loop.example/g00365/impl.Row]", "slices.overlaps[loop.example/g00365/impl.Last]"], unfollowed := true, recurses := true, apart := false, narrowed := true }
def FnOnceUptoSaid : Prop := fnOnceUptoRow.holds Tryz.pinned (OpenSpec.upto fnOnceSpec)

end Rows
end Go.Proofs.YtjhdhgbboomecaaGreat
