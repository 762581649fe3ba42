/-
  No cell of these rows narrows 'for every input' (looked for: loops, veiled, ifaces, maps, wideKeys, modest, calm, conditions, laid).
  DERIVED. THE GIVEN ROWS OF THIS SEAT. 5 by the template 'for every input the law returns true; each argument reads behind the call as it read before'; 0 by the template 'total and deterministic' (their statements: YtmkjebekmeefcaaTotals.lean).
  GIVEN WITH THE SEED: the statements are not yours to turn. If you find one false, say at which input.
  Laid BY PROGRAM, IN A SANDBOX (cutbox-rows.mjs): the forced cells as the released guide's own fill.sh prints them over the translation 2d06a4ece45ee2c4… (all of the seat's roots in one cut). By AI agents, Wed Nov 11 2026. No macro, syntax, notation, axiom, sorry.
-/
import Derived.Test.YtmkjebekmeefcaaChecked
import GoSem.Claim
import GoSem.ClaimJoined
import GoSem.ClaimMapViews
import Derived.JoinedTies
import Derived.KernelRfl
namespace Go.Proofs.Ytmkjebekmeefcaa
/- THE CELL 'sum', in the pinned program and in every row, IS THE sha256 OF THE DUMP (.gsa) THAT YtmkjebekmeefcaaProg.lean LOADS. Nothing in Lean hashes anything: it is a label: what it is worth is what the hold of that sum in a sandbox is worth. -/
noncomputable def Try.pinned : Pinned := { name := "ytmkjebekmeefcaa", sum := "2d06a4ece45ee2c4bf47c6dc4adc59b05148644f607f1dcd79a0be92fc1586b6", checked := Try.checked }
namespace Rows
def none {H : Type} : Left H := { results := [], args := [] }

/-- 'laws.FnExactFall': WHATEVER THE INPUT: true; the input reads as it did. -/
def fnExactFallSpec : ChangeSpec := { name := "fnExactFall", fn := fun _ => fun
  | [d1, d2] => { results := [.lit (.bool true)], args := [d1, d2] }
  | _ => none }
def fnExactFallRow : OpenClaim := { program := "ytmkjebekmeefcaa", sum := "2d06a4ece45ee2c4bf47c6dc4adc59b05148644f607f1dcd79a0be92fc1586b6", func := "loop.example/g00365/laws.FnExactFall", spec := "fnExactFall", apart := false }
def FnExactFallSaid : Prop := fnExactFallRow.holds Try.pinned (OpenSpec.ofChange fnExactFallSpec)

/-- ITS FALSE NEIGHBOUR: 'it returns false'. Refute it at one input. -/
def fnExactFallWrong : ChangeSpec := { name := "fnExactFall", fn := fun _ => fun
  | [d1, d2] => { results := [.lit (.bool false)], args := [d1, d2] }
  | _ => none }
def FnExactFallWrongFalsely : Prop := fnExactFallRow.holds Try.pinned (OpenSpec.ofChange fnExactFallWrong)

/-- 'laws.FnExactAddFor': WHATEVER THE INPUT: true; the input reads as it did. -/
def fnExactAddForSpec : ChangeSpec := { name := "fnExactAddFor", fn := fun _ => fun
  | [d1, d2, d3] => { results := [.lit (.bool true)], args := [d1, d2, d3] }
  | _ => none }
def fnExactAddForRow : OpenClaim := { program := "ytmkjebekmeefcaa", sum := "2d06a4ece45ee2c4bf47c6dc4adc59b05148644f607f1dcd79a0be92fc1586b6", func := "loop.example/g00365/laws.FnExactAddFor", spec := "fnExactAddFor", apart := false }
def FnExactAddForSaid : Prop := fnExactAddForRow.holds Try.pinned (OpenSpec.ofChange fnExactAddForSpec)

/-- ITS FALSE NEIGHBOUR: 'it returns false'. Refute it at one input. -/
def fnExactAddForWrong : ChangeSpec := { name := "fnExactAddFor", fn := fun _ => fun
  | [d1, d2, d3] => { results := [.lit (.bool false)], args := [d1, d2, d3] }
  | _ => none }
def FnExactAddForWrongFalsely : Prop := fnExactAddForRow.holds Try.pinned (OpenSpec.ofChange fnExactAddForWrong)

/-- 'laws.FnExactPropose': WHATEVER THE INPUT: true; the input reads as it did. -/
def fnExactProposeSpec : ChangeSpec := { name := "fnExactPropose", fn := fun _ => fun
  | [d1, d2, d3] => { results := [.lit (.bool true)], args := [d1, d2, d3] }
  | _ => none }
def fnExactProposeRow : OpenClaim := { program := "ytmkjebekmeefcaa", sum := "2d06a4ece45ee2c4bf47c6dc4adc59b05148644f607f1dcd79a0be92fc1586b6", func := "loop.example/g00365/laws.FnExactPropose", spec := "fnExactPropose", apart := false }
def FnExactProposeSaid : Prop := fnExactProposeRow.holds Try.pinned (OpenSpec.ofChange fnExactProposeSpec)

/-- ITS FALSE NEIGHBOUR: 'it returns false'. Refute it at one input. -/
def fnExactProposeWrong : ChangeSpec := { name := "fnExactPropose", fn := fun _ => fun
  | [d1, d2, d3] => { results := [.lit (.bool false)], args := [d1, d2, d3] }
  | _ => none }
def FnExactProposeWrongFalsely : Prop := fnExactProposeRow.holds Try.pinned (OpenSpec.ofChange fnExactProposeWrong)

/-- 'laws.FnExactTick': WHATEVER THE INPUT: true; the input reads as it did. -/
def fnExactTickSpec : ChangeSpec := { name := "fnExactTick", fn := fun _ => fun
  | [d1, d2] => { results := [.lit (.bool true)], args := [d1, d2] }
  | _ => none }
def fnExactTickRow : OpenClaim := { program := "ytmkjebekmeefcaa", sum := "2d06a4ece45ee2c4bf47c6dc4adc59b05148644f607f1dcd79a0be92fc1586b6", func := "loop.example/g00365/laws.FnExactTick", spec := "fnExactTick", apart := false }
def FnExactTickSaid : Prop := fnExactTickRow.holds Try.pinned (OpenSpec.ofChange fnExactTickSpec)

/-- ITS FALSE NEIGHBOUR: 'it returns false'. Refute it at one input. -/
def fnExactTickWrong : ChangeSpec := { name := "fnExactTick", fn := fun _ => fun
  | [d1, d2] => { results := [.lit (.bool false)], args := [d1, d2] }
  | _ => none }
def FnExactTickWrongFalsely : Prop := fnExactTickRow.holds Try.pinned (OpenSpec.ofChange fnExactTickWrong)

/-- 'laws.FnHears': WHATEVER THE INPUT: true; the input reads as it did. -/
def fnHearsSpec : ChangeSpec := { name := "fnHears", fn := fun _ => fun
  | [d] => { results := [.lit (.bool true)], args := [d] }
  | _ => none }
def fnHearsRow : OpenClaim := { program := "ytmkjebekmeefcaa", sum := "2d06a4ece45ee2c4bf47c6dc4adc59b05148644f607f1dcd79a0be92fc1586b6", func := "loop.example/g00365/laws.FnHears", spec := "fnHears", apart := false }
def FnHearsSaid : Prop := fnHearsRow.holds Try.pinned (OpenSpec.ofChange fnHearsSpec)

/-- ITS FALSE NEIGHBOUR: 'it returns false'. Refute it at one input. -/
def fnHearsWrong : ChangeSpec := { name := "fnHears", fn := fun _ => fun
  | [d] => { results := [.lit (.bool false)], args := [d] }
  | _ => none }
def FnHearsWrongFalsely : Prop := fnHearsRow.holds Try.pinned (OpenSpec.ofChange fnHearsWrong)

/- THE SECOND FORM. 'bulk': how many values and letters a reading holds, each counted each time it is reached (what is shared counts as often as it is met; a slice's spare places count too). A statement '..UptoSaid' is the law's where the arguments, and the package variables that the reading takes, are together of bulk at most 1048576: NARROWER than '..Said'. Prove '..Said' where nothing that the law and all that it calls make is longer than what came in: it says more and counts as full. Else prove '..UptoSaid'. A law counts once. -/
mutual
def uptoBulk {H : Type} : DataW H → Nat
  | .lit (.string bytes) => bytes.length + 1
  | .lit _ => 1
  | .nil => 1
  | .ptr d => uptoBulk d + 1
  | .slice elems spare => uptoBulkAll elems + uptoBulkAll spare + 1
  | .agg parts => uptoBulkAll parts + 1
  | .iface _ d => uptoBulk d + 1
  | .map entries => uptoBulkEntries entries + 1
  | .held _ => 1
def uptoBulkAll {H : Type} : List (DataW H) → Nat
  | [] => 0
  | d :: r => uptoBulk d + uptoBulkAll r
def uptoBulkEntries {H : Type} : List (Lit × DataW H) → Nat
  | [] => 0
  | x :: r => uptoBulkEntry x + uptoBulkEntries r
def uptoBulkEntry {H : Type} : Lit × DataW H → Nat
  | (.string bytes, d) => bytes.length + uptoBulk d + 1
  | (_, d) => uptoBulk d + 1
 end
def uptoSmall : (H : Type) → List (DataW H) → Bool := fun _ ds => decide (uptoBulkAll ds ≤ 1048576)
def OpenSpec.upto (s : _root_.Go.ChangeSpec) : _root_.Go.OpenSpec := { _root_.Go.OpenSpec.ofChange s with cond := some uptoSmall }

/-- 'laws.FnExactFall', WHERE WHAT IT READS IS OF BULK AT MOST 1048576: true; the input reads as it did. -/
def fnExactFallUptoRow : OpenClaim := { program := "ytmkjebekmeefcaa", sum := "2d06a4ece45ee2c4bf47c6dc4adc59b05148644f607f1dcd79a0be92fc1586b6", func := "loop.example/g00365/laws.FnExactFall", spec := "fnExactFall", apart := false, narrowed := true }
def FnExactFallUptoSaid : Prop := fnExactFallUptoRow.holds Try.pinned (OpenSpec.upto fnExactFallSpec)

/-- 'laws.FnExactAddFor', WHERE WHAT IT READS IS OF BULK AT MOST 1048576: true; the input reads as it did. -/
def fnExactAddForUptoRow : OpenClaim := { program := "ytmkjebekmeefcaa", sum := "2d06a4ece45ee2c4bf47c6dc4adc59b05148644f607f1dcd79a0be92fc1586b6", func := "loop.example/g00365/laws.FnExactAddFor", spec := "fnExactAddFor", apart := false, narrowed := true }
def FnExactAddForUptoSaid : Prop := fnExactAddForUptoRow.holds Try.pinned (OpenSpec.upto fnExactAddForSpec)

/-- 'laws.FnExactPropose', WHERE WHAT IT READS IS OF BULK AT MOST 1048576: true; the input reads as it did. -/
def fnExactProposeUptoRow : OpenClaim := { program := "ytmkjebekmeefcaa", sum := "2d06a4ece45ee2c4bf47c6dc4adc59b05148644f607f1dcd79a0be92fc1586b6", func := "loop.example/g00365/laws.FnExactPropose", spec := "fnExactPropose", apart := false, narrowed := true }
def FnExactProposeUptoSaid : Prop := fnExactProposeUptoRow.holds Try.pinned (OpenSpec.upto fnExactProposeSpec)

/-- 'laws.FnExactTick', WHERE WHAT IT READS IS OF BULK AT MOST 1048576: true; the input reads as it did. -/
def fnExactTickUptoRow : OpenClaim := { program := "ytmkjebekmeefcaa", sum := "2d06a4ece45ee2c4bf47c6dc4adc59b05148644f607f1dcd79a0be92fc1586b6", func := "loop.example/g00365/laws.FnExactTick", spec := "fnExactTick", apart := false, narrowed := true }
def FnExactTickUptoSaid : Prop := fnExactTickUptoRow.holds Try.pinned (OpenSpec.upto fnExactTickSpec)

/-- 'laws.FnHears', WHERE WHAT IT READS IS OF BULK AT MOST 1048576: true; the input reads as it did. -/
def fnHearsUptoRow : OpenClaim := { program := "ytmkjebekmeefcaa", sum := "2d06a4ece45ee2c4bf47c6dc4adc59b05148644f607f1dcd79a0be92fc1586b6", func := "loop.example/g00365/laws.FnHears", spec := "fnHears", apart := false, narrowed := true }
def FnHearsUptoSaid : Prop := fnHearsUptoRow.holds Try.pinned (OpenSpec.upto fnHearsSpec)

end Rows
end Go.Proofs.Ytmkjebekmeefcaa
