/- An own evaluator of the program's form, proved sound, and what it says of this law's functions: part 4. -/
import Derived.Test.YtmkjebekmeefcaaE3
set_option linter.unusedVariables false
open Go Go.Eng Go.Proofs
namespace Go.Eng.R
def laws_markBoolS_c : Cfg := ⟨tab, sumsOf [], fun _ => false, fun f => (look [] f).getD [], false⟩
theorem laws_markBoolS_c_ok : SumsOk Try.prog tab laws_markBoolS_c.sums := sums_nil
def laws_markBoolS_l2_e : LE := ⟨2, ⟨[(0, (.one (.sl 0 t_bool))), (1, (.one (.int .i64))), (5, (.one (.int .i64)))], [(.drow t_bool)], 1, [0]⟩, fun st => Out.tst (laws_markBoolS_l2 (((((br st 0).length : Nat) : Int) - ((sv st 2).I)).toNat + 1) ((sv st 1).I) ((sv st 2).I) (br st 0)).isSome (brs ((fun r_ => 0) ((laws_markBoolS_l2 (((((br st 0).length : Nat) : Int) - ((sv st 2).I)).toNat + 1) ((sv st 1).I) ((sv st 2).I) (br st 0)).getD default)) 0 ((fun r_ => [((Ex.exit 0), (⟨[(1, (V.int .i64 r_.1))], [(0, some (Blk.drow t_bool r_.2))], 1, [0]⟩ : St))]) ((laws_markBoolS_l2 (((((br st 0).length : Nat) : Int) - ((sv st 2).I)).toNat + 1) ((sv st 1).I) ((sv st 2).I) (br st 0)).getD default)))⟩
def laws_markBoolS_L : Loops := ⟨fun k => (look [(2, [0, 1, 5])] k).getD [], fun k => (look [] k).getD [], fun k => (look [(2, [1])] k).getD [], runL [laws_markBoolS_l2_e]⟩
theorem laws_markBoolS_l2_ok (k_ : Nat) : ∀ (k1 : Int) (i5 : Int) (r0 : List V), Agr id (fun r_ => pick (0) 0 [((Ex.exit 0), (⟨[(1, (V.int .i64 r_.1))], [(0, some (Blk.drow t_bool r_.2))], 1, [0]⟩ : St))]) (laws_markBoolS_l2 k_ k1 i5 r0) (rounds laws_markBoolS_c laws_markBoolS_L ((loopsIn (bodyOf Try.f52)).getD 0 .skip) k_ (⟨[(0, (V.sl 0 t_bool 0 none)), (1, (V.int .i64 k1)), (5, (V.int .i64 i5))], [(0, some (Blk.drow t_bool r0))], 1, [0]⟩ : St)) := by
  induction k_ with
  | zero => intros; exact agr_none
  | succ k_ ih =>
    intro k1 i5 r0
    have h : rounds laws_markBoolS_c laws_markBoolS_L ((loopsIn (bodyOf Try.f52)).getD 0 .skip) (k_ + 1) (⟨[(0, (V.sl 0 t_bool 0 none)), (1, (V.int .i64 k1)), (5, (V.int .i64 i5))], [(0, some (Blk.drow t_bool r0))], 1, [0]⟩ : St) = (bif (decide (i5 < ((r0.length : Nat) : Int))) then bif (idxOk i5 r0.length) then rounds laws_markBoolS_c laws_markBoolS_L ((loopsIn (bodyOf Try.f52)).getD 0 .skip) k_ (⟨[(0, (V.sl 0 t_bool 0 none)), (1, (V.int .i64 (IntKind.i64.wrap (k1 + 1)))), (5, (V.int .i64 (IntKind.i64.wrap (i5 + 1))))], [(0, some (Blk.drow t_bool (r0.set (0 + i5.toNat) (V.bool (decide ((k1.tmod 3) = 0))))))], 1, [0]⟩ : St) else none else some ((Ex.exit 0), (⟨[(1, (V.int .i64 k1))], [(0, some (Blk.drow t_bool r0))], 1, [0]⟩ : St))) := by kernel_rfl
    rw [h, laws_markBoolS_l2]
    clear h
    repeat' (first | exact agr_none | refine agr_if ?_ ?_ | refine agr_call fun _ => ?_ | refine agr_let fun _ => ?_ | exact agr_leaf (by kernel_rfl) | exact ih _ _ _)
theorem laws_markBoolS_lo : LoopsOk laws_markBoolS_c laws_markBoolS_L (bodyOf Try.f52) := by
  refine GoodAll.ok (l := [laws_markBoolS_l2_e]) ?_ rfl
  refine GoodAll.cons 0 (by kernel_rfl) ?_ ?_
  · exact good_of (key := 2) (ss := ⟨[(0, (.one (.sl 0 t_bool))), (1, (.one (.int .i64))), (5, (.one (.int .i64)))], [(.drow t_bool)], 1, [0]⟩) (F := fun st => laws_markBoolS_l2 (((((br st 0).length : Nat) : Int) - ((sv st 2).I)).toNat + 1) ((sv st 1).I) ((sv st 2).I) (br st 0)) (ix := fun r_ => 0) (ps := fun r_ => [((Ex.exit 0), (⟨[(1, (V.int .i64 r_.1))], [(0, some (Blk.drow t_bool r_.2))], 1, [0]⟩ : St))]) (fun st => ((((br st 0).length : Nat) : Int) - ((sv st 2).I)).toNat + 1) fun st h => by
      have q := laws_markBoolS_l2_ok (((((br st 0).length : Nat) : Int) - ((sv st 2).I)).toNat + 1) ((sv st 1).I) ((sv st 2).I) (br st 0)
      rw [show (⟨[(0, (V.sl 0 t_bool 0 none)), (1, (V.int .i64 ((sv st 1).I))), (5, (V.int .i64 ((sv st 2).I)))], [(0, some (Blk.drow t_bool (br st 0)))], 1, [0]⟩ : St) = st from h] at q
      exact q
  exact GoodAll.nil
def laws_markBoolS_sh (r_ : Int × List V) : V × List V := ((V.int .i64 r_.1), [(V.dr t_bool r_.2)])
theorem laws_markBoolS_e (a : List V) (k : Int) : Agr (wkF [[.dead]] [[(.dr t_bool)]]) laws_markBoolS_sh (laws_markBoolS a k) (evalFn laws_markBoolS_c laws_markBoolS_L Try.f52 [(V.dr t_bool a), (V.int .i64 k)]) := by
  have h : evalFn laws_markBoolS_c laws_markBoolS_L Try.f52 [(V.dr t_bool a), (V.int .i64 k)] = (rcall (laws_markBoolS_l2 ((((a.length : Nat) : Int) - 0).toNat + 1) k 0 a) fun r96 => some ((V.int .i64 r96.1), [(V.dr t_bool r96.2)])) := by kernel_rfl
  rw [h, laws_markBoolS]
  clear h
  repeat' (first | exact agr_none | refine agr_if ?_ ?_ | refine agr_call fun _ => ?_ | refine agr_let fun _ => ?_ | exact agr_leaf (by kernel_rfl))
def laws_markBoolS_s (args : List V) : Option (Bool × (V × List V)) := bif argsOk [(.one (.dr t_bool)), (.one (.int .i64))] args then some ((laws_markBoolS ((rd args 0).L) ((rd args 1).I)).isSome, laws_markBoolS_sh ((laws_markBoolS ((rd args 0).L) ((rd args 1).I)).getD default)) else none
theorem laws_markBoolS_s_ok : ∀ args r, laws_markBoolS_s args = some (true, r) → SumOk Try.prog tab 52 args r :=
  Base.sum (cfg := laws_markBoolS_c) (F := fun args => laws_markBoolS ((rd args 0).L) ((rd args 1).I)) (shr := laws_markBoolS_sh) base laws_markBoolS_c_ok Try.func52 (by kernel_rfl) laws_markBoolS_lo [(.one (.dr t_bool)), (.one (.int .i64))] (by kernel_rfl) [[.dead]] [[(.dr t_bool)]] (by kernel_rfl) fun args h => by
    have q := laws_markBoolS_e ((rd args 0).L) ((rd args 1).I)
    rw [show [(V.dr t_bool ((rd args 0).L)), (V.int .i64 ((rd args 1).I))] = args from h] at q
    exact q
def laws_markIntS_c : Cfg := ⟨tab, sumsOf [], fun _ => false, fun f => (look [] f).getD [], false⟩
theorem laws_markIntS_c_ok : SumsOk Try.prog tab laws_markIntS_c.sums := sums_nil
def laws_markIntS_l2_e : LE := ⟨2, ⟨[(0, (.one (.sl 0 t_int'))), (1, (.one (.int .i64))), (5, (.one (.int .i64)))], [(.drow t_int')], 1, [0]⟩, fun st => Out.tst (laws_markIntS_l2 (((((br st 0).length : Nat) : Int) - ((sv st 2).I)).toNat + 1) ((sv st 1).I) ((sv st 2).I) (br st 0)).isSome (brs ((fun r_ => 0) ((laws_markIntS_l2 (((((br st 0).length : Nat) : Int) - ((sv st 2).I)).toNat + 1) ((sv st 1).I) ((sv st 2).I) (br st 0)).getD default)) 0 ((fun r_ => [((Ex.exit 0), (⟨[(1, (V.int .i64 r_.1))], [(0, some (Blk.drow t_int' r_.2))], 1, [0]⟩ : St))]) ((laws_markIntS_l2 (((((br st 0).length : Nat) : Int) - ((sv st 2).I)).toNat + 1) ((sv st 1).I) ((sv st 2).I) (br st 0)).getD default)))⟩
def laws_markIntS_L : Loops := ⟨fun k => (look [(2, [0, 1, 5])] k).getD [], fun k => (look [] k).getD [], fun k => (look [(2, [1])] k).getD [], runL [laws_markIntS_l2_e]⟩
theorem laws_markIntS_l2_ok (k_ : Nat) : ∀ (k1 : Int) (i5 : Int) (r0 : List V), Agr id (fun r_ => pick (0) 0 [((Ex.exit 0), (⟨[(1, (V.int .i64 r_.1))], [(0, some (Blk.drow t_int' r_.2))], 1, [0]⟩ : St))]) (laws_markIntS_l2 k_ k1 i5 r0) (rounds laws_markIntS_c laws_markIntS_L ((loopsIn (bodyOf Try.f53)).getD 0 .skip) k_ (⟨[(0, (V.sl 0 t_int' 0 none)), (1, (V.int .i64 k1)), (5, (V.int .i64 i5))], [(0, some (Blk.drow t_int' r0))], 1, [0]⟩ : St)) := by
  induction k_ with
  | zero => intros; exact agr_none
  | succ k_ ih =>
    intro k1 i5 r0
    have h : rounds laws_markIntS_c laws_markIntS_L ((loopsIn (bodyOf Try.f53)).getD 0 .skip) (k_ + 1) (⟨[(0, (V.sl 0 t_int' 0 none)), (1, (V.int .i64 k1)), (5, (V.int .i64 i5))], [(0, some (Blk.drow t_int' r0))], 1, [0]⟩ : St) = (bif (decide (i5 < ((r0.length : Nat) : Int))) then bif (idxOk i5 r0.length) then rounds laws_markIntS_c laws_markIntS_L ((loopsIn (bodyOf Try.f53)).getD 0 .skip) k_ (⟨[(0, (V.sl 0 t_int' 0 none)), (1, (V.int .i64 (IntKind.i64.wrap (k1 + 1)))), (5, (V.int .i64 (IntKind.i64.wrap (i5 + 1))))], [(0, some (Blk.drow t_int' (r0.set (0 + i5.toNat) (V.int .i64 k1))))], 1, [0]⟩ : St) else none else some ((Ex.exit 0), (⟨[(1, (V.int .i64 k1))], [(0, some (Blk.drow t_int' r0))], 1, [0]⟩ : St))) := by kernel_rfl
    rw [h, laws_markIntS_l2]
    clear h
    repeat' (first | exact agr_none | refine agr_if ?_ ?_ | refine agr_call fun _ => ?_ | refine agr_let fun _ => ?_ | exact agr_leaf (by kernel_rfl) | exact ih _ _ _)
theorem laws_markIntS_lo : LoopsOk laws_markIntS_c laws_markIntS_L (bodyOf Try.f53) := by
  refine GoodAll.ok (l := [laws_markIntS_l2_e]) ?_ rfl
  refine GoodAll.cons 0 (by kernel_rfl) ?_ ?_
  · exact good_of (key := 2) (ss := ⟨[(0, (.one (.sl 0 t_int'))), (1, (.one (.int .i64))), (5, (.one (.int .i64)))], [(.drow t_int')], 1, [0]⟩) (F := fun st => laws_markIntS_l2 (((((br st 0).length : Nat) : Int) - ((sv st 2).I)).toNat + 1) ((sv st 1).I) ((sv st 2).I) (br st 0)) (ix := fun r_ => 0) (ps := fun r_ => [((Ex.exit 0), (⟨[(1, (V.int .i64 r_.1))], [(0, some (Blk.drow t_int' r_.2))], 1, [0]⟩ : St))]) (fun st => ((((br st 0).length : Nat) : Int) - ((sv st 2).I)).toNat + 1) fun st h => by
      have q := laws_markIntS_l2_ok (((((br st 0).length : Nat) : Int) - ((sv st 2).I)).toNat + 1) ((sv st 1).I) ((sv st 2).I) (br st 0)
      rw [show (⟨[(0, (V.sl 0 t_int' 0 none)), (1, (V.int .i64 ((sv st 1).I))), (5, (V.int .i64 ((sv st 2).I)))], [(0, some (Blk.drow t_int' (br st 0)))], 1, [0]⟩ : St) = st from h] at q
      exact q
  exact GoodAll.nil
def laws_markIntS_sh (r_ : Int × List V) : V × List V := ((V.int .i64 r_.1), [(V.dr t_int' r_.2)])
theorem laws_markIntS_e (a : List V) (k : Int) : Agr (wkF [[.dead]] [[(.dr t_int')]]) laws_markIntS_sh (laws_markIntS a k) (evalFn laws_markIntS_c laws_markIntS_L Try.f53 [(V.dr t_int' a), (V.int .i64 k)]) := by
  have h : evalFn laws_markIntS_c laws_markIntS_L Try.f53 [(V.dr t_int' a), (V.int .i64 k)] = (rcall (laws_markIntS_l2 ((((a.length : Nat) : Int) - 0).toNat + 1) k 0 a) fun r98 => some ((V.int .i64 r98.1), [(V.dr t_int' r98.2)])) := by kernel_rfl
  rw [h, laws_markIntS]
  clear h
  repeat' (first | exact agr_none | refine agr_if ?_ ?_ | refine agr_call fun _ => ?_ | refine agr_let fun _ => ?_ | exact agr_leaf (by kernel_rfl))
def laws_markIntS_s (args : List V) : Option (Bool × (V × List V)) := bif argsOk [(.one (.dr t_int')), (.one (.int .i64))] args then some ((laws_markIntS ((rd args 0).L) ((rd args 1).I)).isSome, laws_markIntS_sh ((laws_markIntS ((rd args 0).L) ((rd args 1).I)).getD default)) else none
theorem laws_markIntS_s_ok : ∀ args r, laws_markIntS_s args = some (true, r) → SumOk Try.prog tab 53 args r :=
  Base.sum (cfg := laws_markIntS_c) (F := fun args => laws_markIntS ((rd args 0).L) ((rd args 1).I)) (shr := laws_markIntS_sh) base laws_markIntS_c_ok Try.func53 (by kernel_rfl) laws_markIntS_lo [(.one (.dr t_int')), (.one (.int .i64))] (by kernel_rfl) [[.dead]] [[(.dr t_int')]] (by kernel_rfl) fun args h => by
    have q := laws_markIntS_e ((rd args 0).L) ((rd args 1).I)
    rw [show [(V.dr t_int' ((rd args 0).L)), (V.int .i64 ((rd args 1).I))] = args from h] at q
    exact q
def laws_markNode_c : Cfg := ⟨tab, sumsOf [(51, laws_markItemS_s), (52, laws_markBoolS_s), (53, laws_markIntS_s)], fun f => Nat.beq f 51 || Nat.beq f 52 || Nat.beq f 53, fun f => (look [(51, [some t_impl_Item, none]), (52, [some t_bool, none]), (53, [some t_int', none])] f).getD [], false⟩
theorem laws_markNode_c_ok : SumsOk Try.prog tab laws_markNode_c.sums := sums_cons f51_en laws_markItemS_s_ok (sums_cons f52_en laws_markBoolS_s_ok (sums_cons f53_en laws_markIntS_s_ok (sums_nil)))
def laws_markNode_L : Loops := ⟨fun k => (look [] k).getD [], fun k => (look [] k).getD [], fun k => (look [] k).getD [], runL []⟩
def laws_markNode_sh (r_ : Int × List V × List V × List V × List V) : V × List V := ((V.int .i64 r_.1), [(V.dr t_impl_Item r_.2.1), (V.dr t_bool r_.2.2.1), (V.dr t_int' r_.2.2.2.1), (V.dr t_int' r_.2.2.2.2)])
theorem laws_markNode_e (a : V) (k : Int) : Agr (wkF [[.dead]] [[(.dr t_impl_Item)], [(.dr t_bool)], [(.dr t_int')], [(.dr t_int')]]) laws_markNode_sh (laws_markNode a k) (evalFn laws_markNode_c laws_markNode_L Try.f13 [(V.agg [(V.int .i64 (gi a 0)), (V.int .i64 (gi a 1)), (V.int .i64 (gi a 2)), (V.dr t_impl_Item (gl a 3)), (V.int .i64 (gi a 4)), (V.int .i64 (gi a 5)), (V.int .i64 (gi a 6)), (V.int .i64 (gi a 7)), (V.dr t_bool (gl a 8)), (V.dr t_int' (gl a 9)), (V.dr t_int' (gl a 10))]), (V.int .i64 k)]) := by
  have h : evalFn laws_markNode_c laws_markNode_L Try.f13 [(V.agg [(V.int .i64 (gi a 0)), (V.int .i64 (gi a 1)), (V.int .i64 (gi a 2)), (V.dr t_impl_Item (gl a 3)), (V.int .i64 (gi a 4)), (V.int .i64 (gi a 5)), (V.int .i64 (gi a 6)), (V.int .i64 (gi a 7)), (V.dr t_bool (gl a 8)), (V.dr t_int' (gl a 9)), (V.dr t_int' (gl a 10))]), (V.int .i64 k)] = (rcall (laws_markItemS (gl a 3) k) fun r95 => rcall (laws_markBoolS (gl a 8) r95.1) fun r97 => rcall (laws_markIntS (gl a 9) r97.1) fun r99 => rcall (laws_markIntS (gl a 10) r99.1) fun r100 => some ((V.int .i64 r100.1), [(V.dr t_impl_Item r95.2), (V.dr t_bool r97.2), (V.dr t_int' r99.2), (V.dr t_int' r100.2)])) := by kernel_rfl
  rw [h, laws_markNode]
  clear h
  repeat' (first | exact agr_none | refine agr_if ?_ ?_ | refine agr_call fun _ => ?_ | refine agr_let fun _ => ?_ | exact agr_leaf (by kernel_rfl))
def laws_markNode_s (args : List V) : Option (Bool × (V × List V)) := bif argsOk [(.agg [(.int .i64), (.int .i64), (.int .i64), (.dr t_impl_Item), (.int .i64), (.int .i64), (.int .i64), (.int .i64), (.dr t_bool), (.dr t_int'), (.dr t_int')]), (.one (.int .i64))] args then some ((laws_markNode (rd args 0) ((rd args 1).I)).isSome, laws_markNode_sh ((laws_markNode (rd args 0) ((rd args 1).I)).getD default)) else none
theorem laws_markNode_s_ok : ∀ args r, laws_markNode_s args = some (true, r) → SumOk Try.prog tab 13 args r :=
  Base.sum (cfg := laws_markNode_c) (F := fun args => laws_markNode (rd args 0) ((rd args 1).I)) (shr := laws_markNode_sh) base laws_markNode_c_ok Try.func13 (by kernel_rfl) (GoodAll.ok (l := []) GoodAll.nil rfl) [(.agg [(.int .i64), (.int .i64), (.int .i64), (.dr t_impl_Item), (.int .i64), (.int .i64), (.int .i64), (.int .i64), (.dr t_bool), (.dr t_int'), (.dr t_int')]), (.one (.int .i64))] (by kernel_rfl) [[.dead]] [[(.dr t_impl_Item)], [(.dr t_bool)], [(.dr t_int')], [(.dr t_int')]] (by kernel_rfl) fun args h => by
    have q := laws_markNode_e (rd args 0) ((rd args 1).I)
    rw [show [(V.agg [(V.int .i64 (gi (rd args 0) 0)), (V.int .i64 (gi (rd args 0) 1)), (V.int .i64 (gi (rd args 0) 2)), (V.dr t_impl_Item (gl (rd args 0) 3)), (V.int .i64 (gi (rd args 0) 4)), (V.int .i64 (gi (rd args 0) 5)), (V.int .i64 (gi (rd args 0) 6)), (V.int .i64 (gi (rd args 0) 7)), (V.dr t_bool (gl (rd args 0) 8)), (V.dr t_int' (gl (rd args 0) 9)), (V.dr t_int' (gl (rd args 0) 10))]), (V.int .i64 ((rd args 1).I))] = args from h] at q
    exact q
def laws_heldByteS_c : Cfg := ⟨tab, sumsOf [], fun _ => false, fun f => (look [] f).getD [], false⟩
theorem laws_heldByteS_c_ok : SumsOk Try.prog tab laws_heldByteS_c.sums := sums_nil
def laws_heldByteS_l2_e : LE := ⟨2, ⟨[(0, (.one (.inl t_byte))), (1, (.one (.int .i64))), (5, (.one (.int .i64)))], [], 0, []⟩, fun st => Out.tst (laws_heldByteS_l2 ((((((sv st 0).L).length : Nat) : Int) - ((sv st 2).I)).toNat + 1) ((sv st 0).L) ((sv st 1).I) ((sv st 2).I)).isSome (brs ((fun r_ => r_.1) ((laws_heldByteS_l2 ((((((sv st 0).L).length : Nat) : Int) - ((sv st 2).I)).toNat + 1) ((sv st 0).L) ((sv st 1).I) ((sv st 2).I)).getD default)) 0 ((fun r_ => [(Ex.ret, (⟨[(1, (V.int .i64 r_.2.1)), (4, (V.int .i64 r_.2.2))], [], 0, []⟩ : St)), ((Ex.exit 0), (⟨[(1, (V.int .i64 r_.2.1)), (4, V.dead)], [], 0, []⟩ : St))]) ((laws_heldByteS_l2 ((((((sv st 0).L).length : Nat) : Int) - ((sv st 2).I)).toNat + 1) ((sv st 0).L) ((sv st 1).I) ((sv st 2).I)).getD default)))⟩
def laws_heldByteS_L : Loops := ⟨fun k => (look [(2, [0, 1, 5])] k).getD [], fun k => (look [] k).getD [], fun k => (look [(2, [1, 4])] k).getD [], runL [laws_heldByteS_l2_e]⟩
theorem laws_heldByteS_l2_ok (k_ : Nat) : ∀ (a0 : List V) (k1 : Int) (i5 : Int), Agr id (fun r_ => pick (r_.1) 0 [(Ex.ret, (⟨[(1, (V.int .i64 r_.2.1)), (4, (V.int .i64 r_.2.2))], [], 0, []⟩ : St)), ((Ex.exit 0), (⟨[(1, (V.int .i64 r_.2.1)), (4, V.dead)], [], 0, []⟩ : St))]) (laws_heldByteS_l2 k_ a0 k1 i5) (rounds laws_heldByteS_c laws_heldByteS_L ((loopsIn (bodyOf Try.f101)).getD 0 .skip) k_ (⟨[(0, (V.inl t_byte a0)), (1, (V.int .i64 k1)), (5, (V.int .i64 i5))], [], 0, []⟩ : St)) := by
  induction k_ with
  | zero => intros; exact agr_none
  | succ k_ ih =>
    intro a0 k1 i5
    have h : rounds laws_heldByteS_c laws_heldByteS_L ((loopsIn (bodyOf Try.f101)).getD 0 .skip) (k_ + 1) (⟨[(0, (V.inl t_byte a0)), (1, (V.int .i64 k1)), (5, (V.int .i64 i5))], [], 0, []⟩ : St) = (bif (decide (i5 < ((a0.length : Nat) : Int))) then bif (idxOk i5 a0.length) then bif (!(decide ((gi (rd a0 i5.toNat) 0) = (IntKind.u8.wrap k1)))) then some (Ex.ret, (⟨[(1, (V.int .i64 k1)), (4, (V.int .i64 (-1)))], [], 0, []⟩ : St)) else rounds laws_heldByteS_c laws_heldByteS_L ((loopsIn (bodyOf Try.f101)).getD 0 .skip) k_ (⟨[(0, (V.inl t_byte a0)), (1, (V.int .i64 (IntKind.i64.wrap (k1 + 1)))), (5, (V.int .i64 (IntKind.i64.wrap (i5 + 1))))], [], 0, []⟩ : St) else none else some ((Ex.exit 0), (⟨[(1, (V.int .i64 k1)), (4, V.dead)], [], 0, []⟩ : St))) := by kernel_rfl
    rw [h, laws_heldByteS_l2]
    clear h
    repeat' (first | exact agr_none | refine agr_if ?_ ?_ | refine agr_call fun _ => ?_ | refine agr_let fun _ => ?_ | exact agr_leaf (by kernel_rfl) | exact ih _ _ _)
theorem laws_heldByteS_lo : LoopsOk laws_heldByteS_c laws_heldByteS_L (bodyOf Try.f101) := by
  refine GoodAll.ok (l := [laws_heldByteS_l2_e]) ?_ rfl
  refine GoodAll.cons 0 (by kernel_rfl) ?_ ?_
  · exact good_of (key := 2) (ss := ⟨[(0, (.one (.inl t_byte))), (1, (.one (.int .i64))), (5, (.one (.int .i64)))], [], 0, []⟩) (F := fun st => laws_heldByteS_l2 ((((((sv st 0).L).length : Nat) : Int) - ((sv st 2).I)).toNat + 1) ((sv st 0).L) ((sv st 1).I) ((sv st 2).I)) (ix := fun r_ => r_.1) (ps := fun r_ => [(Ex.ret, (⟨[(1, (V.int .i64 r_.2.1)), (4, (V.int .i64 r_.2.2))], [], 0, []⟩ : St)), ((Ex.exit 0), (⟨[(1, (V.int .i64 r_.2.1)), (4, V.dead)], [], 0, []⟩ : St))]) (fun st => (((((sv st 0).L).length : Nat) : Int) - ((sv st 2).I)).toNat + 1) fun st h => by
      have q := laws_heldByteS_l2_ok ((((((sv st 0).L).length : Nat) : Int) - ((sv st 2).I)).toNat + 1) ((sv st 0).L) ((sv st 1).I) ((sv st 2).I)
      rw [show (⟨[(0, (V.inl t_byte ((sv st 0).L))), (1, (V.int .i64 ((sv st 1).I))), (5, (V.int .i64 ((sv st 2).I)))], [], 0, []⟩ : St) = st from h] at q
      exact q
  exact GoodAll.nil
def laws_heldByteS_sh (r_ : Int) : V × List V := ((V.int .i64 r_), [])
theorem laws_heldByteS_e (a : List V) (k : Int) : Agr (wkF [[.dead]] []) laws_heldByteS_sh (laws_heldByteS a k) (evalFn laws_heldByteS_c laws_heldByteS_L Try.f101 [(V.inl t_byte a), (V.int .i64 k)]) := by
  have h : evalFn laws_heldByteS_c laws_heldByteS_L Try.f101 [(V.inl t_byte a), (V.int .i64 k)] = (rcall (laws_heldByteS_l2 ((((a.length : Nat) : Int) - 0).toNat + 1) a k 0) fun r104 => bif (Nat.beq r104.1 0) then some ((V.int .i64 r104.2.2), []) else some ((V.int .i64 r104.2.1), [])) := by kernel_rfl
  rw [h, laws_heldByteS]
  clear h
  repeat' (first | exact agr_none | refine agr_if ?_ ?_ | refine agr_call fun _ => ?_ | refine agr_let fun _ => ?_ | exact agr_leaf (by kernel_rfl))
def laws_heldByteS_s (args : List V) : Option (Bool × (V × List V)) := bif argsOk [(.one (.inl t_byte)), (.one (.int .i64))] args then some ((laws_heldByteS ((rd args 0).L) ((rd args 1).I)).isSome, laws_heldByteS_sh ((laws_heldByteS ((rd args 0).L) ((rd args 1).I)).getD default)) else none
theorem laws_heldByteS_s_ok : ∀ args r, laws_heldByteS_s args = some (true, r) → SumOk Try.prog tab 101 args r :=
  Base.sum (cfg := laws_heldByteS_c) (F := fun args => laws_heldByteS ((rd args 0).L) ((rd args 1).I)) (shr := laws_heldByteS_sh) base laws_heldByteS_c_ok Try.func101 (by kernel_rfl) laws_heldByteS_lo [(.one (.inl t_byte)), (.one (.int .i64))] (by kernel_rfl) [[.dead]] [] (by kernel_rfl) fun args h => by
    have q := laws_heldByteS_e ((rd args 0).L) ((rd args 1).I)
    rw [show [(V.inl t_byte ((rd args 0).L)), (V.int .i64 ((rd args 1).I))] = args from h] at q
    exact q
def laws_heldItemS_c : Cfg := ⟨tab, sumsOf [(101, laws_heldByteS_s)], fun _ => false, fun f => (look [(101, [some t_byte, none])] f).getD [], false⟩
theorem laws_heldItemS_c_ok : SumsOk Try.prog tab laws_heldItemS_c.sums := sums_cons f101_en laws_heldByteS_s_ok (sums_nil)
def laws_heldItemS_l2_e : LE := ⟨2, ⟨[(0, (.one (.inl t_impl_Item))), (1, (.one (.int .i64))), (5, (.one (.int .i64)))], [], 0, []⟩, fun st => Out.tst (laws_heldItemS_l2 ((((((sv st 0).L).length : Nat) : Int) - ((sv st 2).I)).toNat + 1) ((sv st 0).L) ((sv st 1).I) ((sv st 2).I)).isSome (brs ((fun r_ => r_.1) ((laws_heldItemS_l2 ((((((sv st 0).L).length : Nat) : Int) - ((sv st 2).I)).toNat + 1) ((sv st 0).L) ((sv st 1).I) ((sv st 2).I)).getD default)) 0 ((fun r_ => [(Ex.ret, (⟨[(1, (V.int .i64 r_.2.1)), (4, (V.int .i64 r_.2.2))], [], 0, []⟩ : St)), ((Ex.exit 0), (⟨[(1, (V.int .i64 r_.2.1)), (4, V.dead)], [], 0, []⟩ : St))]) ((laws_heldItemS_l2 ((((((sv st 0).L).length : Nat) : Int) - ((sv st 2).I)).toNat + 1) ((sv st 0).L) ((sv st 1).I) ((sv st 2).I)).getD default)))⟩
def laws_heldItemS_L : Loops := ⟨fun k => (look [(2, [0, 1, 5])] k).getD [], fun k => (look [] k).getD [], fun k => (look [(2, [1, 4])] k).getD [], runL [laws_heldItemS_l2_e]⟩
set_option maxRecDepth 100000 in
theorem laws_heldItemS_l2_ok (k_ : Nat) : ∀ (a0 : List V) (k1 : Int) (i5 : Int), Agr id (fun r_ => pick (r_.1) 0 [(Ex.ret, (⟨[(1, (V.int .i64 r_.2.1)), (4, (V.int .i64 r_.2.2))], [], 0, []⟩ : St)), ((Ex.exit 0), (⟨[(1, (V.int .i64 r_.2.1)), (4, V.dead)], [], 0, []⟩ : St))]) (laws_heldItemS_l2 k_ a0 k1 i5) (rounds laws_heldItemS_c laws_heldItemS_L ((loopsIn (bodyOf Try.f54)).getD 0 .skip) k_ (⟨[(0, (V.inl t_impl_Item a0)), (1, (V.int .i64 k1)), (5, (V.int .i64 i5))], [], 0, []⟩ : St)) := by
  induction k_ with
  | zero => intros; exact agr_none
  | succ k_ ih =>
    intro a0 k1 i5
    have h : rounds laws_heldItemS_c laws_heldItemS_L ((loopsIn (bodyOf Try.f54)).getD 0 .skip) (k_ + 1) (⟨[(0, (V.inl t_impl_Item a0)), (1, (V.int .i64 k1)), (5, (V.int .i64 i5))], [], 0, []⟩ : St) = (bif (decide (i5 < ((a0.length : Nat) : Int))) then bif (idxOk i5 a0.length) then bif (!(decide ((gi (rd a0 i5.toNat) 0) = k1))) then some (Ex.ret, (⟨[(1, (V.int .i64 k1)), (4, (V.int .i64 (-1)))], [], 0, []⟩ : St)) else bif (idxOk i5 a0.length) then bif (!(decide ((gi (rd a0 i5.toNat) 1) = (IntKind.i64.wrap (k1 + 1))))) then some (Ex.ret, (⟨[(1, (V.int .i64 (IntKind.i64.wrap (k1 + 1)))), (4, (V.int .i64 (-1)))], [], 0, []⟩ : St)) else bif (idxOk i5 a0.length) then bif (!(decide ((gi (rd a0 i5.toNat) 2) = (IntKind.i64.wrap ((IntKind.i64.wrap (k1 + 1)) + 1))))) then some (Ex.ret, (⟨[(1, (V.int .i64 (IntKind.i64.wrap ((IntKind.i64.wrap (k1 + 1)) + 1)))), (4, (V.int .i64 (-1)))], [], 0, []⟩ : St)) else bif (idxOk i5 a0.length) then bif (!(decide ((gi (rd a0 i5.toNat) 3) = (IntKind.i64.wrap ((IntKind.i64.wrap ((IntKind.i64.wrap (k1 + 1)) + 1)) + 1))))) then some (Ex.ret, (⟨[(1, (V.int .i64 (IntKind.i64.wrap ((IntKind.i64.wrap ((IntKind.i64.wrap (k1 + 1)) + 1)) + 1)))), (4, (V.int .i64 (-1)))], [], 0, []⟩ : St)) else bif (idxOk i5 a0.length) then rcall (laws_heldByteS (gl (rd a0 i5.toNat) 4) (IntKind.i64.wrap ((IntKind.i64.wrap ((IntKind.i64.wrap ((IntKind.i64.wrap (k1 + 1)) + 1)) + 1)) + 1))) fun r105 => bif (decide (r105 < 0)) then some (Ex.ret, (⟨[(1, (V.int .i64 r105)), (4, (V.int .i64 (-1)))], [], 0, []⟩ : St)) else bif (idxOk i5 a0.length) then rcall (laws_heldByteS (gl (rd a0 i5.toNat) 5) r105) fun r106 => bif (decide (r106 < 0)) then some (Ex.ret, (⟨[(1, (V.int .i64 r106)), (4, (V.int .i64 (-1)))], [], 0, []⟩ : St)) else bif (idxOk i5 a0.length) then bif (!(decide ((gi (rd a0 i5.toNat) 6) = r106))) then some (Ex.ret, (⟨[(1, (V.int .i64 r106)), (4, (V.int .i64 (-1)))], [], 0, []⟩ : St)) else rounds laws_heldItemS_c laws_heldItemS_L ((loopsIn (bodyOf Try.f54)).getD 0 .skip) k_ (⟨[(0, (V.inl t_impl_Item a0)), (1, (V.int .i64 (IntKind.i64.wrap (r106 + 1)))), (5, (V.int .i64 (IntKind.i64.wrap (i5 + 1))))], [], 0, []⟩ : St) else none else none else none else none else none else none else none else some ((Ex.exit 0), (⟨[(1, (V.int .i64 k1)), (4, V.dead)], [], 0, []⟩ : St))) := by kernel_rfl
    rw [h, laws_heldItemS_l2]
    clear h
    repeat' (first | exact agr_none | refine agr_if ?_ ?_ | refine agr_call fun _ => ?_ | refine agr_let fun _ => ?_ | exact agr_leaf (by kernel_rfl) | exact ih _ _ _)
theorem laws_heldItemS_lo : LoopsOk laws_heldItemS_c laws_heldItemS_L (bodyOf Try.f54) := by
  refine GoodAll.ok (l := [laws_heldItemS_l2_e]) ?_ rfl
  refine GoodAll.cons 0 (by kernel_rfl) ?_ ?_
  · exact good_of (key := 2) (ss := ⟨[(0, (.one (.inl t_impl_Item))), (1, (.one (.int .i64))), (5, (.one (.int .i64)))], [], 0, []⟩) (F := fun st => laws_heldItemS_l2 ((((((sv st 0).L).length : Nat) : Int) - ((sv st 2).I)).toNat + 1) ((sv st 0).L) ((sv st 1).I) ((sv st 2).I)) (ix := fun r_ => r_.1) (ps := fun r_ => [(Ex.ret, (⟨[(1, (V.int .i64 r_.2.1)), (4, (V.int .i64 r_.2.2))], [], 0, []⟩ : St)), ((Ex.exit 0), (⟨[(1, (V.int .i64 r_.2.1)), (4, V.dead)], [], 0, []⟩ : St))]) (fun st => (((((sv st 0).L).length : Nat) : Int) - ((sv st 2).I)).toNat + 1) fun st h => by
      have q := laws_heldItemS_l2_ok ((((((sv st 0).L).length : Nat) : Int) - ((sv st 2).I)).toNat + 1) ((sv st 0).L) ((sv st 1).I) ((sv st 2).I)
      rw [show (⟨[(0, (V.inl t_impl_Item ((sv st 0).L))), (1, (V.int .i64 ((sv st 1).I))), (5, (V.int .i64 ((sv st 2).I)))], [], 0, []⟩ : St) = st from h] at q
      exact q
  exact GoodAll.nil
def laws_heldItemS_sh (r_ : Int) : V × List V := ((V.int .i64 r_), [])
theorem laws_heldItemS_e (a : List V) (k : Int) : Agr (wkF [[.dead]] []) laws_heldItemS_sh (laws_heldItemS a k) (evalFn laws_heldItemS_c laws_heldItemS_L Try.f54 [(V.inl t_impl_Item a), (V.int .i64 k)]) := by
  have h : evalFn laws_heldItemS_c laws_heldItemS_L Try.f54 [(V.inl t_impl_Item a), (V.int .i64 k)] = (rcall (laws_heldItemS_l2 ((((a.length : Nat) : Int) - 0).toNat + 1) a k 0) fun r107 => bif (Nat.beq r107.1 0) then some ((V.int .i64 r107.2.2), []) else some ((V.int .i64 r107.2.1), [])) := by kernel_rfl
  rw [h, laws_heldItemS]
  clear h
  repeat' (first | exact agr_none | refine agr_if ?_ ?_ | refine agr_call fun _ => ?_ | refine agr_let fun _ => ?_ | exact agr_leaf (by kernel_rfl))
def laws_heldItemS_s (args : List V) : Option (Bool × (V × List V)) := bif argsOk [(.one (.inl t_impl_Item)), (.one (.int .i64))] args then some ((laws_heldItemS ((rd args 0).L) ((rd args 1).I)).isSome, laws_heldItemS_sh ((laws_heldItemS ((rd args 0).L) ((rd args 1).I)).getD default)) else none
theorem laws_heldItemS_s_ok : ∀ args r, laws_heldItemS_s args = some (true, r) → SumOk Try.prog tab 54 args r :=
  Base.sum (cfg := laws_heldItemS_c) (F := fun args => laws_heldItemS ((rd args 0).L) ((rd args 1).I)) (shr := laws_heldItemS_sh) base laws_heldItemS_c_ok Try.func54 (by kernel_rfl) laws_heldItemS_lo [(.one (.inl t_impl_Item)), (.one (.int .i64))] (by kernel_rfl) [[.dead]] [] (by kernel_rfl) fun args h => by
    have q := laws_heldItemS_e ((rd args 0).L) ((rd args 1).I)
    rw [show [(V.inl t_impl_Item ((rd args 0).L)), (V.int .i64 ((rd args 1).I))] = args from h] at q
    exact q
def laws_heldBoolS_c : Cfg := ⟨tab, sumsOf [], fun _ => false, fun f => (look [] f).getD [], false⟩
theorem laws_heldBoolS_c_ok : SumsOk Try.prog tab laws_heldBoolS_c.sums := sums_nil
def laws_heldBoolS_l2_e : LE := ⟨2, ⟨[(0, (.one (.inl t_bool))), (1, (.one (.int .i64))), (5, (.one (.int .i64)))], [], 0, []⟩, fun st => Out.tst (laws_heldBoolS_l2 ((((((sv st 0).L).length : Nat) : Int) - ((sv st 2).I)).toNat + 1) ((sv st 0).L) ((sv st 1).I) ((sv st 2).I)).isSome (brs ((fun r_ => r_.1) ((laws_heldBoolS_l2 ((((((sv st 0).L).length : Nat) : Int) - ((sv st 2).I)).toNat + 1) ((sv st 0).L) ((sv st 1).I) ((sv st 2).I)).getD default)) 0 ((fun r_ => [(Ex.ret, (⟨[(1, (V.int .i64 r_.2.1)), (4, (V.int .i64 r_.2.2))], [], 0, []⟩ : St)), ((Ex.exit 0), (⟨[(1, (V.int .i64 r_.2.1)), (4, V.dead)], [], 0, []⟩ : St))]) ((laws_heldBoolS_l2 ((((((sv st 0).L).length : Nat) : Int) - ((sv st 2).I)).toNat + 1) ((sv st 0).L) ((sv st 1).I) ((sv st 2).I)).getD default)))⟩
def laws_heldBoolS_L : Loops := ⟨fun k => (look [(2, [0, 1, 5])] k).getD [], fun k => (look [] k).getD [], fun k => (look [(2, [1, 4])] k).getD [], runL [laws_heldBoolS_l2_e]⟩
theorem laws_heldBoolS_l2_ok (k_ : Nat) : ∀ (a0 : List V) (k1 : Int) (i5 : Int), Agr id (fun r_ => pick (r_.1) 0 [(Ex.ret, (⟨[(1, (V.int .i64 r_.2.1)), (4, (V.int .i64 r_.2.2))], [], 0, []⟩ : St)), ((Ex.exit 0), (⟨[(1, (V.int .i64 r_.2.1)), (4, V.dead)], [], 0, []⟩ : St))]) (laws_heldBoolS_l2 k_ a0 k1 i5) (rounds laws_heldBoolS_c laws_heldBoolS_L ((loopsIn (bodyOf Try.f55)).getD 0 .skip) k_ (⟨[(0, (V.inl t_bool a0)), (1, (V.int .i64 k1)), (5, (V.int .i64 i5))], [], 0, []⟩ : St)) := by
  induction k_ with
  | zero => intros; exact agr_none
  | succ k_ ih =>
    intro a0 k1 i5
    have h : rounds laws_heldBoolS_c laws_heldBoolS_L ((loopsIn (bodyOf Try.f55)).getD 0 .skip) (k_ + 1) (⟨[(0, (V.inl t_bool a0)), (1, (V.int .i64 k1)), (5, (V.int .i64 i5))], [], 0, []⟩ : St) = (bif (decide (i5 < ((a0.length : Nat) : Int))) then bif (idxOk i5 a0.length) then bif (!((gb (rd a0 i5.toNat) 0) == (decide ((k1.tmod 3) = 0)))) then some (Ex.ret, (⟨[(1, (V.int .i64 k1)), (4, (V.int .i64 (-1)))], [], 0, []⟩ : St)) else rounds laws_heldBoolS_c laws_heldBoolS_L ((loopsIn (bodyOf Try.f55)).getD 0 .skip) k_ (⟨[(0, (V.inl t_bool a0)), (1, (V.int .i64 (IntKind.i64.wrap (k1 + 1)))), (5, (V.int .i64 (IntKind.i64.wrap (i5 + 1))))], [], 0, []⟩ : St) else none else some ((Ex.exit 0), (⟨[(1, (V.int .i64 k1)), (4, V.dead)], [], 0, []⟩ : St))) := by kernel_rfl
    rw [h, laws_heldBoolS_l2]
    clear h
    repeat' (first | exact agr_none | refine agr_if ?_ ?_ | refine agr_call fun _ => ?_ | refine agr_let fun _ => ?_ | exact agr_leaf (by kernel_rfl) | exact ih _ _ _)
theorem laws_heldBoolS_lo : LoopsOk laws_heldBoolS_c laws_heldBoolS_L (bodyOf Try.f55) := by
  refine GoodAll.ok (l := [laws_heldBoolS_l2_e]) ?_ rfl
  refine GoodAll.cons 0 (by kernel_rfl) ?_ ?_
  · exact good_of (key := 2) (ss := ⟨[(0, (.one (.inl t_bool))), (1, (.one (.int .i64))), (5, (.one (.int .i64)))], [], 0, []⟩) (F := fun st => laws_heldBoolS_l2 ((((((sv st 0).L).length : Nat) : Int) - ((sv st 2).I)).toNat + 1) ((sv st 0).L) ((sv st 1).I) ((sv st 2).I)) (ix := fun r_ => r_.1) (ps := fun r_ => [(Ex.ret, (⟨[(1, (V.int .i64 r_.2.1)), (4, (V.int .i64 r_.2.2))], [], 0, []⟩ : St)), ((Ex.exit 0), (⟨[(1, (V.int .i64 r_.2.1)), (4, V.dead)], [], 0, []⟩ : St))]) (fun st => (((((sv st 0).L).length : Nat) : Int) - ((sv st 2).I)).toNat + 1) fun st h => by
      have q := laws_heldBoolS_l2_ok ((((((sv st 0).L).length : Nat) : Int) - ((sv st 2).I)).toNat + 1) ((sv st 0).L) ((sv st 1).I) ((sv st 2).I)
      rw [show (⟨[(0, (V.inl t_bool ((sv st 0).L))), (1, (V.int .i64 ((sv st 1).I))), (5, (V.int .i64 ((sv st 2).I)))], [], 0, []⟩ : St) = st from h] at q
      exact q
  exact GoodAll.nil
def laws_heldBoolS_sh (r_ : Int) : V × List V := ((V.int .i64 r_), [])
theorem laws_heldBoolS_e (a : List V) (k : Int) : Agr (wkF [[.dead]] []) laws_heldBoolS_sh (laws_heldBoolS a k) (evalFn laws_heldBoolS_c laws_heldBoolS_L Try.f55 [(V.inl t_bool a), (V.int .i64 k)]) := by
  have h : evalFn laws_heldBoolS_c laws_heldBoolS_L Try.f55 [(V.inl t_bool a), (V.int .i64 k)] = (rcall (laws_heldBoolS_l2 ((((a.length : Nat) : Int) - 0).toNat + 1) a k 0) fun r109 => bif (Nat.beq r109.1 0) then some ((V.int .i64 r109.2.2), []) else some ((V.int .i64 r109.2.1), [])) := by kernel_rfl
  rw [h, laws_heldBoolS]
  clear h
  repeat' (first | exact agr_none | refine agr_if ?_ ?_ | refine agr_call fun _ => ?_ | refine agr_let fun _ => ?_ | exact agr_leaf (by kernel_rfl))
def laws_heldBoolS_s (args : List V) : Option (Bool × (V × List V)) := bif argsOk [(.one (.inl t_bool)), (.one (.int .i64))] args then some ((laws_heldBoolS ((rd args 0).L) ((rd args 1).I)).isSome, laws_heldBoolS_sh ((laws_heldBoolS ((rd args 0).L) ((rd args 1).I)).getD default)) else none
theorem laws_heldBoolS_s_ok : ∀ args r, laws_heldBoolS_s args = some (true, r) → SumOk Try.prog tab 55 args r :=
  Base.sum (cfg := laws_heldBoolS_c) (F := fun args => laws_heldBoolS ((rd args 0).L) ((rd args 1).I)) (shr := laws_heldBoolS_sh) base laws_heldBoolS_c_ok Try.func55 (by kernel_rfl) laws_heldBoolS_lo [(.one (.inl t_bool)), (.one (.int .i64))] (by kernel_rfl) [[.dead]] [] (by kernel_rfl) fun args h => by
    have q := laws_heldBoolS_e ((rd args 0).L) ((rd args 1).I)
    rw [show [(V.inl t_bool ((rd args 0).L)), (V.int .i64 ((rd args 1).I))] = args from h] at q
    exact q
def laws_heldIntS_c : Cfg := ⟨tab, sumsOf [], fun _ => false, fun f => (look [] f).getD [], false⟩
theorem laws_heldIntS_c_ok : SumsOk Try.prog tab laws_heldIntS_c.sums := sums_nil
def laws_heldIntS_l2_e : LE := ⟨2, ⟨[(0, (.one (.inl t_int'))), (1, (.one (.int .i64))), (5, (.one (.int .i64)))], [], 0, []⟩, fun st => Out.tst (laws_heldIntS_l2 ((((((sv st 0).L).length : Nat) : Int) - ((sv st 2).I)).toNat + 1) ((sv st 0).L) ((sv st 1).I) ((sv st 2).I)).isSome (brs ((fun r_ => r_.1) ((laws_heldIntS_l2 ((((((sv st 0).L).length : Nat) : Int) - ((sv st 2).I)).toNat + 1) ((sv st 0).L) ((sv st 1).I) ((sv st 2).I)).getD default)) 0 ((fun r_ => [(Ex.ret, (⟨[(1, (V.int .i64 r_.2.1)), (4, (V.int .i64 r_.2.2))], [], 0, []⟩ : St)), ((Ex.exit 0), (⟨[(1, (V.int .i64 r_.2.1)), (4, V.dead)], [], 0, []⟩ : St))]) ((laws_heldIntS_l2 ((((((sv st 0).L).length : Nat) : Int) - ((sv st 2).I)).toNat + 1) ((sv st 0).L) ((sv st 1).I) ((sv st 2).I)).getD default)))⟩
def laws_heldIntS_L : Loops := ⟨fun k => (look [(2, [0, 1, 5])] k).getD [], fun k => (look [] k).getD [], fun k => (look [(2, [1, 4])] k).getD [], runL [laws_heldIntS_l2_e]⟩
theorem laws_heldIntS_l2_ok (k_ : Nat) : ∀ (a0 : List V) (k1 : Int) (i5 : Int), Agr id (fun r_ => pick (r_.1) 0 [(Ex.ret, (⟨[(1, (V.int .i64 r_.2.1)), (4, (V.int .i64 r_.2.2))], [], 0, []⟩ : St)), ((Ex.exit 0), (⟨[(1, (V.int .i64 r_.2.1)), (4, V.dead)], [], 0, []⟩ : St))]) (laws_heldIntS_l2 k_ a0 k1 i5) (rounds laws_heldIntS_c laws_heldIntS_L ((loopsIn (bodyOf Try.f56)).getD 0 .skip) k_ (⟨[(0, (V.inl t_int' a0)), (1, (V.int .i64 k1)), (5, (V.int .i64 i5))], [], 0, []⟩ : St)) := by
  induction k_ with
  | zero => intros; exact agr_none
  | succ k_ ih =>
    intro a0 k1 i5
    have h : rounds laws_heldIntS_c laws_heldIntS_L ((loopsIn (bodyOf Try.f56)).getD 0 .skip) (k_ + 1) (⟨[(0, (V.inl t_int' a0)), (1, (V.int .i64 k1)), (5, (V.int .i64 i5))], [], 0, []⟩ : St) = (bif (decide (i5 < ((a0.length : Nat) : Int))) then bif (idxOk i5 a0.length) then bif (!(decide ((gi (rd a0 i5.toNat) 0) = k1))) then some (Ex.ret, (⟨[(1, (V.int .i64 k1)), (4, (V.int .i64 (-1)))], [], 0, []⟩ : St)) else rounds laws_heldIntS_c laws_heldIntS_L ((loopsIn (bodyOf Try.f56)).getD 0 .skip) k_ (⟨[(0, (V.inl t_int' a0)), (1, (V.int .i64 (IntKind.i64.wrap (k1 + 1)))), (5, (V.int .i64 (IntKind.i64.wrap (i5 + 1))))], [], 0, []⟩ : St) else none else some ((Ex.exit 0), (⟨[(1, (V.int .i64 k1)), (4, V.dead)], [], 0, []⟩ : St))) := by kernel_rfl
    rw [h, laws_heldIntS_l2]
    clear h
    repeat' (first | exact agr_none | refine agr_if ?_ ?_ | refine agr_call fun _ => ?_ | refine agr_let fun _ => ?_ | exact agr_leaf (by kernel_rfl) | exact ih _ _ _)
theorem laws_heldIntS_lo : LoopsOk laws_heldIntS_c laws_heldIntS_L (bodyOf Try.f56) := by
  refine GoodAll.ok (l := [laws_heldIntS_l2_e]) ?_ rfl
  refine GoodAll.cons 0 (by kernel_rfl) ?_ ?_
  · exact good_of (key := 2) (ss := ⟨[(0, (.one (.inl t_int'))), (1, (.one (.int .i64))), (5, (.one (.int .i64)))], [], 0, []⟩) (F := fun st => laws_heldIntS_l2 ((((((sv st 0).L).length : Nat) : Int) - ((sv st 2).I)).toNat + 1) ((sv st 0).L) ((sv st 1).I) ((sv st 2).I)) (ix := fun r_ => r_.1) (ps := fun r_ => [(Ex.ret, (⟨[(1, (V.int .i64 r_.2.1)), (4, (V.int .i64 r_.2.2))], [], 0, []⟩ : St)), ((Ex.exit 0), (⟨[(1, (V.int .i64 r_.2.1)), (4, V.dead)], [], 0, []⟩ : St))]) (fun st => (((((sv st 0).L).length : Nat) : Int) - ((sv st 2).I)).toNat + 1) fun st h => by
      have q := laws_heldIntS_l2_ok ((((((sv st 0).L).length : Nat) : Int) - ((sv st 2).I)).toNat + 1) ((sv st 0).L) ((sv st 1).I) ((sv st 2).I)
      rw [show (⟨[(0, (V.inl t_int' ((sv st 0).L))), (1, (V.int .i64 ((sv st 1).I))), (5, (V.int .i64 ((sv st 2).I)))], [], 0, []⟩ : St) = st from h] at q
      exact q
  exact GoodAll.nil
def laws_heldIntS_sh (r_ : Int) : V × List V := ((V.int .i64 r_), [])
theorem laws_heldIntS_e (a : List V) (k : Int) : Agr (wkF [[.dead]] []) laws_heldIntS_sh (laws_heldIntS a k) (evalFn laws_heldIntS_c laws_heldIntS_L Try.f56 [(V.inl t_int' a), (V.int .i64 k)]) := by
  have h : evalFn laws_heldIntS_c laws_heldIntS_L Try.f56 [(V.inl t_int' a), (V.int .i64 k)] = (rcall (laws_heldIntS_l2 ((((a.length : Nat) : Int) - 0).toNat + 1) a k 0) fun r111 => bif (Nat.beq r111.1 0) then some ((V.int .i64 r111.2.2), []) else some ((V.int .i64 r111.2.1), [])) := by kernel_rfl
  rw [h, laws_heldIntS]
  clear h
  repeat' (first | exact agr_none | refine agr_if ?_ ?_ | refine agr_call fun _ => ?_ | refine agr_let fun _ => ?_ | exact agr_leaf (by kernel_rfl))
def laws_heldIntS_s (args : List V) : Option (Bool × (V × List V)) := bif argsOk [(.one (.inl t_int')), (.one (.int .i64))] args then some ((laws_heldIntS ((rd args 0).L) ((rd args 1).I)).isSome, laws_heldIntS_sh ((laws_heldIntS ((rd args 0).L) ((rd args 1).I)).getD default)) else none
theorem laws_heldIntS_s_ok : ∀ args r, laws_heldIntS_s args = some (true, r) → SumOk Try.prog tab 56 args r :=
  Base.sum (cfg := laws_heldIntS_c) (F := fun args => laws_heldIntS ((rd args 0).L) ((rd args 1).I)) (shr := laws_heldIntS_sh) base laws_heldIntS_c_ok Try.func56 (by kernel_rfl) laws_heldIntS_lo [(.one (.inl t_int')), (.one (.int .i64))] (by kernel_rfl) [[.dead]] [] (by kernel_rfl) fun args h => by
    have q := laws_heldIntS_e ((rd args 0).L) ((rd args 1).I)
    rw [show [(V.inl t_int' ((rd args 0).L)), (V.int .i64 ((rd args 1).I))] = args from h] at q
    exact q
def laws_heldNode_c : Cfg := ⟨tab, sumsOf [(54, laws_heldItemS_s), (55, laws_heldBoolS_s), (56, laws_heldIntS_s)], fun _ => false, fun f => (look [(54, [some t_impl_Item, none]), (55, [some t_bool, none]), (56, [some t_int', none])] f).getD [], false⟩
theorem laws_heldNode_c_ok : SumsOk Try.prog tab laws_heldNode_c.sums := sums_cons f54_en laws_heldItemS_s_ok (sums_cons f55_en laws_heldBoolS_s_ok (sums_cons f56_en laws_heldIntS_s_ok (sums_nil)))
def laws_heldNode_L : Loops := ⟨fun k => (look [] k).getD [], fun k => (look [] k).getD [], fun k => (look [] k).getD [], runL []⟩
def laws_heldNode_sh (r_ : Int) : V × List V := ((V.int .i64 r_), [])
set_option maxRecDepth 100000 in
theorem laws_heldNode_e (a : V) (k : Int) : Agr (wkF [[.dead]] []) laws_heldNode_sh (laws_heldNode a k) (evalFn laws_heldNode_c laws_heldNode_L Try.f14 [(n_impl_Node a), (V.int .i64 k)]) := by
  have h : evalFn laws_heldNode_c laws_heldNode_L Try.f14 [(n_impl_Node a), (V.int .i64 k)] = (rcall (laws_heldItemS (gl a 3) k) fun r108 => bif (decide (r108 < 0)) then some ((V.int .i64 (-1)), []) else rcall (laws_heldBoolS (gl a 8) r108) fun r110 => bif (decide (r110 < 0)) then some ((V.int .i64 (-1)), []) else rcall (laws_heldIntS (gl a 9) r110) fun r112 => bif (decide (r112 < 0)) then some ((V.int .i64 (-1)), []) else rcall (laws_heldIntS (gl a 10) r112) fun r113 => bif (decide (r113 < 0)) then some ((V.int .i64 (-1)), []) else some ((V.int .i64 r113), [])) := by kernel_rfl
  rw [h, laws_heldNode]
  clear h
  repeat' (first | exact agr_none | refine agr_if ?_ ?_ | refine agr_call fun _ => ?_ | refine agr_let fun _ => ?_ | exact agr_leaf (by kernel_rfl))
def laws_heldNode_s (args : List V) : Option (Bool × (V × List V)) := bif argsOk [(.agg [(.int .i64), (.int .i64), (.int .i64), (.inl t_impl_Item), (.int .i64), (.int .i64), (.int .i64), (.int .i64), (.inl t_bool), (.inl t_int'), (.inl t_int')]), (.one (.int .i64))] args then some ((laws_heldNode (rd args 0) ((rd args 1).I)).isSome, laws_heldNode_sh ((laws_heldNode (rd args 0) ((rd args 1).I)).getD default)) else none
theorem laws_heldNode_s_ok : ∀ args r, laws_heldNode_s args = some (true, r) → SumOk Try.prog tab 14 args r :=
  Base.sum (cfg := laws_heldNode_c) (F := fun args => laws_heldNode (rd args 0) ((rd args 1).I)) (shr := laws_heldNode_sh) base laws_heldNode_c_ok Try.func14 (by kernel_rfl) (GoodAll.ok (l := []) GoodAll.nil rfl) [(.agg [(.int .i64), (.int .i64), (.int .i64), (.inl t_impl_Item), (.int .i64), (.int .i64), (.int .i64), (.int .i64), (.inl t_bool), (.inl t_int'), (.inl t_int')]), (.one (.int .i64))] (by kernel_rfl) [[.dead]] [] (by kernel_rfl) fun args h => by
    have q := laws_heldNode_e (rd args 0) ((rd args 1).I)
    rw [show [(n_impl_Node (rd args 0)), (V.int .i64 ((rd args 1).I))] = args from h] at q
    exact q
def laws_FnExactFall_c : Cfg := ⟨tab, sumsOf [(8, laws_szNode_s), (10, laws_toNode_s), (9, spec_Fall_s), (11, impl_Fall_s), (12, laws_eqNode_s), (13, laws_markNode_s), (14, laws_heldNode_s)], fun f => Nat.beq f 13, fun f => (look [(8, [none, none]), (10, [none]), (9, [none, none]), (11, [none, none]), (12, [none, none]), (13, [none, none]), (14, [none, none])] f).getD [], true⟩
theorem laws_FnExactFall_c_ok : SumsOk Try.prog tab laws_FnExactFall_c.sums := sums_cons f8_en laws_szNode_s_ok (sums_cons f10_en laws_toNode_s_ok (sums_cons f9_en spec_Fall_s_ok (sums_cons f11_en impl_Fall_s_ok (sums_cons f12_en laws_eqNode_s_ok (sums_cons f13_en laws_markNode_s_ok (sums_cons f14_en laws_heldNode_s_ok (sums_nil)))))))
def laws_FnExactFall_L : Loops := ⟨fun k => (look [] k).getD [], fun k => (look [] k).getD [], fun k => (look [] k).getD [], runL []⟩
def laws_FnExactFall_sh (r_ : Bool) : V × List V := ((V.bool r_), [])
set_option maxRecDepth 100000 in
theorem laws_FnExactFall_e (aN : V) (aServers : Int) : Agr (wkF [[.dead]] []) laws_FnExactFall_sh (laws_FnExactFall aN aServers) (evalFn laws_FnExactFall_c laws_FnExactFall_L Try.f3 [(n_laws_Node aN), (V.int .i64 aServers)]) := by
  have h : evalFn laws_FnExactFall_c laws_FnExactFall_L Try.f3 [(n_laws_Node aN), (V.int .i64 aServers)] = (rcall (laws_szNode (n_laws_Node aN) 1048576) fun r3 => bif (decide (r3 < 0)) then some ((V.bool true), []) else rcall (laws_toNode (n_laws_Node aN)) fun r17 => rcall (spec_Fall (n_impl_Node r17) aServers) fun r36 => rcall (laws_toNode (n_laws_Node aN)) fun r37 => rcall (impl_Fall (n_impl_Node r37) aServers) fun r67 => rcall (laws_eqNode (n_impl_Node r67) (n_impl_Node r36)) fun r81 => bif (!r81) then some ((V.bool false), []) else rcall (laws_toNode (n_laws_Node aN)) fun r82 => rcall (laws_eqNode (n_impl_Node r37) (n_impl_Node r82)) fun r83 => bif (!r83) then some ((V.bool false), []) else rcall (laws_markNode (n_impl_Node r37) 1) fun r101 => bif (decide (r101.1 < 0)) then some ((V.bool false), []) else rcall (laws_eqNode (n_impl_Node r67) (n_impl_Node r36)) fun r102 => bif (!r102) then some ((V.bool false), []) else rcall (laws_markNode (n_impl_Node r67) 1) fun r103 => rcall (laws_heldNode (V.agg [(V.int .i64 (gi r67 0)), (V.int .i64 (gi r67 1)), (V.int .i64 (gi r67 2)), (V.inl t_impl_Item r103.2.1), (V.int .i64 (gi r67 4)), (V.int .i64 (gi r67 5)), (V.int .i64 (gi r67 6)), (V.int .i64 (gi r67 7)), (V.inl t_bool r103.2.2.1), (V.inl t_int' r103.2.2.2.1), (V.inl t_int' r103.2.2.2.2)]) 1) fun r114 => bif (decide (r114 < 0)) then some ((V.bool false), []) else bif (!(decide (r114 = r103.1))) then some ((V.bool false), []) else rcall (laws_toNode (n_laws_Node aN)) fun r115 => rcall (impl_Fall (n_impl_Node r115) aServers) fun r116 => rcall (laws_eqNode (n_impl_Node r116) (n_impl_Node r36)) fun r117 => bif (!r117) then some ((V.bool false), []) else rcall (laws_heldNode (V.agg [(V.int .i64 (gi r67 0)), (V.int .i64 (gi r67 1)), (V.int .i64 (gi r67 2)), (V.inl t_impl_Item r103.2.1), (V.int .i64 (gi r67 4)), (V.int .i64 (gi r67 5)), (V.int .i64 (gi r67 6)), (V.int .i64 (gi r67 7)), (V.inl t_bool r103.2.2.1), (V.inl t_int' r103.2.2.2.1), (V.inl t_int' r103.2.2.2.2)]) 1) fun r118 => bif (decide (r118 < 0)) then some ((V.bool false), []) else bif (!(decide (r118 = r103.1))) then some ((V.bool false), []) else some ((V.bool true), [])) := by kernel_rfl
  rw [h, laws_FnExactFall]
  clear h
  repeat' (first | exact agr_none | refine agr_if ?_ ?_ | refine agr_call fun _ => ?_ | refine agr_let fun _ => ?_ | exact agr_leaf (by kernel_rfl))
def laws_FnExactFall_s (args : List V) : Option (Bool × (V × List V)) := bif argsOk [(.agg [(.int .i64), (.int .i64), (.int .i64), (.inl t_laws_Item), (.int .i64), (.int .i64), (.int .i64), (.int .i64), (.inl t_bool), (.inl t_int'), (.inl t_int')]), (.one (.int .i64))] args then some ((laws_FnExactFall (rd args 0) ((rd args 1).I)).isSome, laws_FnExactFall_sh ((laws_FnExactFall (rd args 0) ((rd args 1).I)).getD default)) else none
theorem laws_FnExactFall_s_ok : ∀ args r, laws_FnExactFall_s args = some (true, r) → SumOk Try.prog tab 3 args r :=
  Base.sum (cfg := laws_FnExactFall_c) (F := fun args => laws_FnExactFall (rd args 0) ((rd args 1).I)) (shr := laws_FnExactFall_sh) base laws_FnExactFall_c_ok Try.func3 (by kernel_rfl) (GoodAll.ok (l := []) GoodAll.nil rfl) [(.agg [(.int .i64), (.int .i64), (.int .i64), (.inl t_laws_Item), (.int .i64), (.int .i64), (.int .i64), (.int .i64), (.inl t_bool), (.inl t_int'), (.inl t_int')]), (.one (.int .i64))] (by kernel_rfl) [[.dead]] [] (by kernel_rfl) fun args h => by
    have q := laws_FnExactFall_e (rd args 0) ((rd args 1).I)
    rw [show [(n_laws_Node (rd args 0)), (V.int .i64 ((rd args 1).I))] = args from h] at q
    exact q
end Go.Eng.R
open Go Go.Eng
namespace Go.Eng.R
def M_byte (x : V) (k : Int) : Prop := gi x 0 = IntKind.u8.wrap k
def M_int (x : V) (k : Int) : Prop := gi x 0 = k
def M_bool (x : V) (k : Int) : Prop := gb x 0 = decide (k.tmod 3 = 0)
def cnv_byte (x : V) : V := .int .u8 (gi x 0)
def cnv_int (x : V) : V := .int .i64 (gi x 0)
def cnv_bool (x : V) : V := .bool (gb x 0)
theorem cnv_int_W (x : V) (h : W_int x) : W_int (cnv_int x) := h
theorem cnv_int_z (x : V) : z0 (cnv_int x) = z0 x := rfl
theorem cnv_int_c (x : V) : c1 (cnv_int x) = c1 x := rfl
theorem cnv_bool_W (x : V) (h : W_bool x) : W_bool (cnv_bool x) := h
theorem cnv_bool_z (x : V) : z0 (cnv_bool x) = z0 x := rfl
theorem cnv_bool_c (x : V) : c1 (cnv_bool x) = c1 x := rfl
theorem cnv_byte_W (x : V) (h : W_byte x) : W_byte (cnv_byte x) := h
theorem cnv_byte_z (x : V) : z0 (cnv_byte x) = z0 x := rfl
theorem cnv_byte_c (x : V) : c1 (cnv_byte x) = c1 x := rfl
def W_Item (x : V) : Prop := I64 (gi x 0) ∧ I64 (gi x 1) ∧ I64 (gi x 2) ∧ I64 (gi x 3) ∧ LW W_byte (gl x 4) ∧ LW W_byte (gl x 5) ∧ I64 (gi x 6)
def z_Item (x : V) : Nat := zS z0 (gl x 4) + zS z0 (gl x 5)
def c_Item (x : V) : Nat := 1 + 1 + 1 + 1 + sumL c1 (gl x 4) + sumL c1 (gl x 5) + 1
def ct_Item (x : V) : Nat := sumL c1 (gl x 4) + sumL c1 (gl x 5)
def M_Item (x : V) (k : Int) : Prop := gi x 0 = k ∧ gi x 1 = k + 1 ∧ gi x 2 = k + 1 + 1 ∧ gi x 3 = k + 1 + 1 + 1 ∧ MS c1 M_byte (gl x 4) (k + 1 + 1 + 1 + 1) ∧ MS c1 M_byte (gl x 5) (k + 1 + 1 + 1 + 1 + ((sumL c1 (gl x 4) : Nat) : Int)) ∧ gi x 6 = k + 1 + 1 + 1 + 1 + ((sumL c1 (gl x 4) : Nat) : Int) + ((sumL c1 (gl x 5) : Nat) : Int)
def cnv_Item (x : V) : V := V.agg [(V.int .i64 (gi x 0)), (V.int .i64 (gi x 1)), (V.int .i64 (gi x 2)), (V.int .i64 (gi x 3)), V.inl t_byte ((gl x 4).map cnv_byte), V.inl t_byte ((gl x 5).map cnv_byte), (V.int .i64 (gi x 6))]
theorem cnv_Item_W (x : V) (h : W_Item x) : W_Item (cnv_Item x) := ⟨h.1, h.2.1, h.2.2.1, h.2.2.2.1, LW.map (h := cnv_byte) cnv_byte_W (h.2.2.2.2.1), LW.map (h := cnv_byte) cnv_byte_W (h.2.2.2.2.2.1), h.2.2.2.2.2.2⟩
theorem cnv_Item_z (x : V) : z_Item (cnv_Item x) = z_Item x := by
  simp only [z_Item, show gl (cnv_Item x) 4 = (gl x 4).map cnv_byte from rfl, show gl (cnv_Item x) 5 = (gl x 5).map cnv_byte from rfl, zS_map (h := cnv_byte) cnv_byte_z (gl x 4), zS_map (h := cnv_byte) cnv_byte_z (gl x 5)]
theorem cnv_Item_c (x : V) : c_Item (cnv_Item x) = c_Item x := by
  simp only [c_Item, show gl (cnv_Item x) 4 = (gl x 4).map cnv_byte from rfl, show gl (cnv_Item x) 5 = (gl x 5).map cnv_byte from rfl, sumL_map (h := cnv_byte) cnv_byte_c (gl x 4), sumL_map (h := cnv_byte) cnv_byte_c (gl x 5)]
theorem cnv_Item_ct (x : V) : ct_Item (cnv_Item x) = ct_Item x := by
  simp only [ct_Item, show gl (cnv_Item x) 4 = (gl x 4).map cnv_byte from rfl, show gl (cnv_Item x) 5 = (gl x 5).map cnv_byte from rfl, sumL_map (h := cnv_byte) cnv_byte_c (gl x 4), sumL_map (h := cnv_byte) cnv_byte_c (gl x 5)]
theorem c_Item_cz (x : V) : c_Item x ≤ 5 * (1 + z_Item x) := by
  have h0 : sumL c1 (gl x 4) ≤ 1 * zS z0 (gl x 4) := by rw [sumL_c1, zS_z0]; omega
  have h1 : sumL c1 (gl x 5) ≤ 1 * zS z0 (gl x 5) := by rw [sumL_c1, zS_z0]; omega
  simp only [c_Item, z_Item]; omega
theorem ct_Item_cz (x : V) : ct_Item x ≤ 5 * z_Item x := by
  have h0 : sumL c1 (gl x 4) ≤ 1 * zS z0 (gl x 4) := by rw [sumL_c1, zS_z0]; omega
  have h1 : sumL c1 (gl x 5) ≤ 1 * zS z0 (gl x 5) := by rw [sumL_c1, zS_z0]; omega
  simp only [ct_Item, z_Item]; omega
def W_Node (x : V) : Prop := I64 (gi x 0) ∧ I64 (gi x 1) ∧ I64 (gi x 2) ∧ LW W_Item (gl x 3) ∧ I64 (gi x 4) ∧ I64 (gi x 5) ∧ I64 (gi x 6) ∧ I64 (gi x 7) ∧ LW W_bool (gl x 8) ∧ LW W_int (gl x 9) ∧ LW W_int (gl x 10)
def z_Node (x : V) : Nat := zS z_Item (gl x 3) + zS z0 (gl x 8) + zS z0 (gl x 9) + zS z0 (gl x 10)
def c_Node (x : V) : Nat := 1 + 1 + 1 + sumL c_Item (gl x 3) + 1 + 1 + 1 + 1 + sumL c1 (gl x 8) + sumL c1 (gl x 9) + sumL c1 (gl x 10)
def ct_Node (x : V) : Nat := sumL c_Item (gl x 3) + sumL c1 (gl x 8) + sumL c1 (gl x 9) + sumL c1 (gl x 10)
def M_Node (x : V) (k : Int) : Prop := gi x 0 = k ∧ gi x 1 = k + 1 ∧ gi x 2 = k + 1 + 1 ∧ MS c_Item M_Item (gl x 3) (k + 1 + 1 + 1) ∧ gi x 4 = k + 1 + 1 + 1 + ((sumL c_Item (gl x 3) : Nat) : Int) ∧ gi x 5 = k + 1 + 1 + 1 + ((sumL c_Item (gl x 3) : Nat) : Int) + 1 ∧ gi x 6 = k + 1 + 1 + 1 + ((sumL c_Item (gl x 3) : Nat) : Int) + 1 + 1 ∧ gi x 7 = k + 1 + 1 + 1 + ((sumL c_Item (gl x 3) : Nat) : Int) + 1 + 1 + 1 ∧ MS c1 M_bool (gl x 8) (k + 1 + 1 + 1 + ((sumL c_Item (gl x 3) : Nat) : Int) + 1 + 1 + 1 + 1) ∧ MS c1 M_int (gl x 9) (k + 1 + 1 + 1 + ((sumL c_Item (gl x 3) : Nat) : Int) + 1 + 1 + 1 + 1 + ((sumL c1 (gl x 8) : Nat) : Int)) ∧ MS c1 M_int (gl x 10) (k + 1 + 1 + 1 + ((sumL c_Item (gl x 3) : Nat) : Int) + 1 + 1 + 1 + 1 + ((sumL c1 (gl x 8) : Nat) : Int) + ((sumL c1 (gl x 9) : Nat) : Int))
def cnv_Node (x : V) : V := V.agg [(V.int .i64 (gi x 0)), (V.int .i64 (gi x 1)), (V.int .i64 (gi x 2)), V.inl t_impl_Item ((gl x 3).map cnv_Item), (V.int .i64 (gi x 4)), (V.int .i64 (gi x 5)), (V.int .i64 (gi x 6)), (V.int .i64 (gi x 7)), V.inl t_bool ((gl x 8).map cnv_bool), V.inl t_int' ((gl x 9).map cnv_int), V.inl t_int' ((gl x 10).map cnv_int)]
theorem cnv_Node_W (x : V) (h : W_Node x) : W_Node (cnv_Node x) := ⟨h.1, h.2.1, h.2.2.1, LW.map (h := cnv_Item) cnv_Item_W (h.2.2.2.1), h.2.2.2.2.1, h.2.2.2.2.2.1, h.2.2.2.2.2.2.1, h.2.2.2.2.2.2.2.1, LW.map (h := cnv_bool) cnv_bool_W (h.2.2.2.2.2.2.2.2.1), LW.map (h := cnv_int) cnv_int_W (h.2.2.2.2.2.2.2.2.2.1), LW.map (h := cnv_int) cnv_int_W (h.2.2.2.2.2.2.2.2.2.2)⟩
theorem cnv_Node_z (x : V) : z_Node (cnv_Node x) = z_Node x := by
  simp only [z_Node, show gl (cnv_Node x) 3 = (gl x 3).map cnv_Item from rfl, show gl (cnv_Node x) 8 = (gl x 8).map cnv_bool from rfl, show gl (cnv_Node x) 9 = (gl x 9).map cnv_int from rfl, show gl (cnv_Node x) 10 = (gl x 10).map cnv_int from rfl, zS_map (h := cnv_Item) cnv_Item_z (gl x 3), zS_map (h := cnv_bool) cnv_bool_z (gl x 8), zS_map (h := cnv_int) cnv_int_z (gl x 9), zS_map (h := cnv_int) cnv_int_z (gl x 10)]
theorem cnv_Node_c (x : V) : c_Node (cnv_Node x) = c_Node x := by
  simp only [c_Node, show gl (cnv_Node x) 3 = (gl x 3).map cnv_Item from rfl, show gl (cnv_Node x) 8 = (gl x 8).map cnv_bool from rfl, show gl (cnv_Node x) 9 = (gl x 9).map cnv_int from rfl, show gl (cnv_Node x) 10 = (gl x 10).map cnv_int from rfl, sumL_map (h := cnv_Item) cnv_Item_c (gl x 3), sumL_map (h := cnv_bool) cnv_bool_c (gl x 8), sumL_map (h := cnv_int) cnv_int_c (gl x 9), sumL_map (h := cnv_int) cnv_int_c (gl x 10)]
theorem cnv_Node_ct (x : V) : ct_Node (cnv_Node x) = ct_Node x := by
  simp only [ct_Node, show gl (cnv_Node x) 3 = (gl x 3).map cnv_Item from rfl, show gl (cnv_Node x) 8 = (gl x 8).map cnv_bool from rfl, show gl (cnv_Node x) 9 = (gl x 9).map cnv_int from rfl, show gl (cnv_Node x) 10 = (gl x 10).map cnv_int from rfl, sumL_map (h := cnv_Item) cnv_Item_c (gl x 3), sumL_map (h := cnv_bool) cnv_bool_c (gl x 8), sumL_map (h := cnv_int) cnv_int_c (gl x 9), sumL_map (h := cnv_int) cnv_int_c (gl x 10)]
theorem c_Node_cz (x : V) : c_Node x ≤ 7 * (1 + z_Node x) := by
  have h0 : sumL c_Item (gl x 3) ≤ 5 * zS z_Item (gl x 3) := sumL_mul 5 fun y _ => c_Item_cz y
  have h1 : sumL c1 (gl x 8) ≤ 1 * zS z0 (gl x 8) := by rw [sumL_c1, zS_z0]; omega
  have h2 : sumL c1 (gl x 9) ≤ 1 * zS z0 (gl x 9) := by rw [sumL_c1, zS_z0]; omega
  have h3 : sumL c1 (gl x 10) ≤ 1 * zS z0 (gl x 10) := by rw [sumL_c1, zS_z0]; omega
  simp only [c_Node, z_Node]; omega
theorem ct_Node_cz (x : V) : ct_Node x ≤ 7 * z_Node x := by
  have h0 : sumL c_Item (gl x 3) ≤ 5 * zS z_Item (gl x 3) := sumL_mul 5 fun y _ => c_Item_cz y
  have h1 : sumL c1 (gl x 8) ≤ 1 * zS z0 (gl x 8) := by rw [sumL_c1, zS_z0]; omega
  have h2 : sumL c1 (gl x 9) ≤ 1 * zS z0 (gl x 9) := by rw [sumL_c1, zS_z0]; omega
  have h3 : sumL c1 (gl x 10) ≤ 1 * zS z0 (gl x 10) := by rw [sumL_c1, zS_z0]; omega
  simp only [ct_Node, z_Node]; omega
def W_Op (x : V) : Prop := I64 (gi x 0) ∧ LW W_byte (gl x 1) ∧ LW W_byte (gl x 2) ∧ I64 (gi x 3)
def z_Op (x : V) : Nat := zS z0 (gl x 1) + zS z0 (gl x 2)
def c_Op (x : V) : Nat := 1 + sumL c1 (gl x 1) + sumL c1 (gl x 2) + 1
def ct_Op (x : V) : Nat := sumL c1 (gl x 1) + sumL c1 (gl x 2)
def M_Op (x : V) (k : Int) : Prop := gi x 0 = k ∧ MS c1 M_byte (gl x 1) (k + 1) ∧ MS c1 M_byte (gl x 2) (k + 1 + ((sumL c1 (gl x 1) : Nat) : Int)) ∧ gi x 3 = k + 1 + ((sumL c1 (gl x 1) : Nat) : Int) + ((sumL c1 (gl x 2) : Nat) : Int)
def cnv_Op (x : V) : V := V.agg [(V.int .i64 (gi x 0)), V.inl t_byte ((gl x 1).map cnv_byte), V.inl t_byte ((gl x 2).map cnv_byte), (V.int .i64 (gi x 3))]
theorem cnv_Op_W (x : V) (h : W_Op x) : W_Op (cnv_Op x) := ⟨h.1, LW.map (h := cnv_byte) cnv_byte_W (h.2.1), LW.map (h := cnv_byte) cnv_byte_W (h.2.2.1), h.2.2.2⟩
theorem cnv_Op_z (x : V) : z_Op (cnv_Op x) = z_Op x := by
  simp only [z_Op, show gl (cnv_Op x) 1 = (gl x 1).map cnv_byte from rfl, show gl (cnv_Op x) 2 = (gl x 2).map cnv_byte from rfl, zS_map (h := cnv_byte) cnv_byte_z (gl x 1), zS_map (h := cnv_byte) cnv_byte_z (gl x 2)]
theorem cnv_Op_c (x : V) : c_Op (cnv_Op x) = c_Op x := by
  simp only [c_Op, show gl (cnv_Op x) 1 = (gl x 1).map cnv_byte from rfl, show gl (cnv_Op x) 2 = (gl x 2).map cnv_byte from rfl, sumL_map (h := cnv_byte) cnv_byte_c (gl x 1), sumL_map (h := cnv_byte) cnv_byte_c (gl x 2)]
theorem cnv_Op_ct (x : V) : ct_Op (cnv_Op x) = ct_Op x := by
  simp only [ct_Op, show gl (cnv_Op x) 1 = (gl x 1).map cnv_byte from rfl, show gl (cnv_Op x) 2 = (gl x 2).map cnv_byte from rfl, sumL_map (h := cnv_byte) cnv_byte_c (gl x 1), sumL_map (h := cnv_byte) cnv_byte_c (gl x 2)]
theorem c_Op_cz (x : V) : c_Op x ≤ 2 * (1 + z_Op x) := by
  have h0 : sumL c1 (gl x 1) ≤ 1 * zS z0 (gl x 1) := by rw [sumL_c1, zS_z0]; omega
  have h1 : sumL c1 (gl x 2) ≤ 1 * zS z0 (gl x 2) := by rw [sumL_c1, zS_z0]; omega
  simp only [c_Op, z_Op]; omega
theorem ct_Op_cz (x : V) : ct_Op x ≤ 2 * z_Op x := by
  have h0 : sumL c1 (gl x 1) ≤ 1 * zS z0 (gl x 1) := by rw [sumL_c1, zS_z0]; omega
  have h1 : sumL c1 (gl x 2) ≤ 1 * zS z0 (gl x 2) := by rw [sumL_c1, zS_z0]; omega
  simp only [ct_Op, z_Op]; omega
def W_Cmd (x : V) : Prop := I64 (gi x 0) ∧ I64 (gi x 1) ∧ I64 (gi x 2) ∧ LW W_byte (gl x 3) ∧ LW W_byte (gl x 4) ∧ I64 (gi x 5)
def z_Cmd (x : V) : Nat := zS z0 (gl x 3) + zS z0 (gl x 4)
def c_Cmd (x : V) : Nat := 1 + 1 + 1 + sumL c1 (gl x 3) + sumL c1 (gl x 4) + 1
def ct_Cmd (x : V) : Nat := sumL c1 (gl x 3) + sumL c1 (gl x 4)
def M_Cmd (x : V) (k : Int) : Prop := gi x 0 = k ∧ gi x 1 = k + 1 ∧ gi x 2 = k + 1 + 1 ∧ MS c1 M_byte (gl x 3) (k + 1 + 1 + 1) ∧ MS c1 M_byte (gl x 4) (k + 1 + 1 + 1 + ((sumL c1 (gl x 3) : Nat) : Int)) ∧ gi x 5 = k + 1 + 1 + 1 + ((sumL c1 (gl x 3) : Nat) : Int) + ((sumL c1 (gl x 4) : Nat) : Int)
def cnv_Cmd (x : V) : V := V.agg [(V.int .i64 (gi x 0)), (V.int .i64 (gi x 1)), (V.int .i64 (gi x 2)), V.inl t_byte ((gl x 3).map cnv_byte), V.inl t_byte ((gl x 4).map cnv_byte), (V.int .i64 (gi x 5))]
theorem cnv_Cmd_W (x : V) (h : W_Cmd x) : W_Cmd (cnv_Cmd x) := ⟨h.1, h.2.1, h.2.2.1, LW.map (h := cnv_byte) cnv_byte_W (h.2.2.2.1), LW.map (h := cnv_byte) cnv_byte_W (h.2.2.2.2.1), h.2.2.2.2.2⟩
theorem cnv_Cmd_z (x : V) : z_Cmd (cnv_Cmd x) = z_Cmd x := by
  simp only [z_Cmd, show gl (cnv_Cmd x) 3 = (gl x 3).map cnv_byte from rfl, show gl (cnv_Cmd x) 4 = (gl x 4).map cnv_byte from rfl, zS_map (h := cnv_byte) cnv_byte_z (gl x 3), zS_map (h := cnv_byte) cnv_byte_z (gl x 4)]
theorem cnv_Cmd_c (x : V) : c_Cmd (cnv_Cmd x) = c_Cmd x := by
  simp only [c_Cmd, show gl (cnv_Cmd x) 3 = (gl x 3).map cnv_byte from rfl, show gl (cnv_Cmd x) 4 = (gl x 4).map cnv_byte from rfl, sumL_map (h := cnv_byte) cnv_byte_c (gl x 3), sumL_map (h := cnv_byte) cnv_byte_c (gl x 4)]
theorem cnv_Cmd_ct (x : V) : ct_Cmd (cnv_Cmd x) = ct_Cmd x := by
  simp only [ct_Cmd, show gl (cnv_Cmd x) 3 = (gl x 3).map cnv_byte from rfl, show gl (cnv_Cmd x) 4 = (gl x 4).map cnv_byte from rfl, sumL_map (h := cnv_byte) cnv_byte_c (gl x 3), sumL_map (h := cnv_byte) cnv_byte_c (gl x 4)]
theorem c_Cmd_cz (x : V) : c_Cmd x ≤ 4 * (1 + z_Cmd x) := by
  have h0 : sumL c1 (gl x 3) ≤ 1 * zS z0 (gl x 3) := by rw [sumL_c1, zS_z0]; omega
  have h1 : sumL c1 (gl x 4) ≤ 1 * zS z0 (gl x 4) := by rw [sumL_c1, zS_z0]; omega
  simp only [c_Cmd, z_Cmd]; omega
theorem ct_Cmd_cz (x : V) : ct_Cmd x ≤ 4 * z_Cmd x := by
  have h0 : sumL c1 (gl x 3) ≤ 1 * zS z0 (gl x 3) := by rw [sumL_c1, zS_z0]; omega
  have h1 : sumL c1 (gl x 4) ≤ 1 * zS z0 (gl x 4) := by rw [sumL_c1, zS_z0]; omega
  simp only [ct_Cmd, z_Cmd]; omega
def W_Msg (x : V) : Prop := I64 (gi x 0) ∧ I64 (gi x 1) ∧ I64 (gi x 2) ∧ I64 (gi x 3) ∧ I64 (gi x 4) ∧ I64 (gi x 5) ∧ LW W_Item (gl x 6) ∧ I64 (gi x 7) ∧ True
def z_Msg (x : V) : Nat := zS z_Item (gl x 6)
def c_Msg (x : V) : Nat := 1 + 1 + 1 + 1 + 1 + 1 + sumL c_Item (gl x 6) + 1 + 1
def ct_Msg (x : V) : Nat := sumL c_Item (gl x 6)
def M_Msg (x : V) (k : Int) : Prop := gi x 0 = k ∧ gi x 1 = k + 1 ∧ gi x 2 = k + 1 + 1 ∧ gi x 3 = k + 1 + 1 + 1 ∧ gi x 4 = k + 1 + 1 + 1 + 1 ∧ gi x 5 = k + 1 + 1 + 1 + 1 + 1 ∧ MS c_Item M_Item (gl x 6) (k + 1 + 1 + 1 + 1 + 1 + 1) ∧ gi x 7 = k + 1 + 1 + 1 + 1 + 1 + 1 + ((sumL c_Item (gl x 6) : Nat) : Int) ∧ gb x 8 = decide ((k + 1 + 1 + 1 + 1 + 1 + 1 + ((sumL c_Item (gl x 6) : Nat) : Int) + 1).tmod 3 = 0)
def cnv_Msg (x : V) : V := V.agg [(V.int .i64 (gi x 0)), (V.int .i64 (gi x 1)), (V.int .i64 (gi x 2)), (V.int .i64 (gi x 3)), (V.int .i64 (gi x 4)), (V.int .i64 (gi x 5)), V.inl t_impl_Item ((gl x 6).map cnv_Item), (V.int .i64 (gi x 7)), (V.bool (gb x 8))]
theorem cnv_Msg_W (x : V) (h : W_Msg x) : W_Msg (cnv_Msg x) := ⟨h.1, h.2.1, h.2.2.1, h.2.2.2.1, h.2.2.2.2.1, h.2.2.2.2.2.1, LW.map (h := cnv_Item) cnv_Item_W (h.2.2.2.2.2.2.1), h.2.2.2.2.2.2.2.1, h.2.2.2.2.2.2.2.2⟩
theorem cnv_Msg_z (x : V) : z_Msg (cnv_Msg x) = z_Msg x := by
  simp only [z_Msg, show gl (cnv_Msg x) 6 = (gl x 6).map cnv_Item from rfl, zS_map (h := cnv_Item) cnv_Item_z (gl x 6)]
theorem cnv_Msg_c (x : V) : c_Msg (cnv_Msg x) = c_Msg x := by
  simp only [c_Msg, show gl (cnv_Msg x) 6 = (gl x 6).map cnv_Item from rfl, sumL_map (h := cnv_Item) cnv_Item_c (gl x 6)]
theorem cnv_Msg_ct (x : V) : ct_Msg (cnv_Msg x) = ct_Msg x := by
  simp only [ct_Msg, show gl (cnv_Msg x) 6 = (gl x 6).map cnv_Item from rfl, sumL_map (h := cnv_Item) cnv_Item_c (gl x 6)]
theorem c_Msg_cz (x : V) : c_Msg x ≤ 8 * (1 + z_Msg x) := by
  have h0 : sumL c_Item (gl x 6) ≤ 5 * zS z_Item (gl x 6) := sumL_mul 5 fun y _ => c_Item_cz y
  simp only [c_Msg, z_Msg]; omega
theorem ct_Msg_cz (x : V) : ct_Msg x ≤ 8 * z_Msg x := by
  have h0 : sumL c_Item (gl x 6) ≤ 5 * zS z_Item (gl x 6) := sumL_mul 5 fun y _ => c_Item_cz y
  simp only [ct_Msg, z_Msg]; omega
def W_server (x : V) : Prop := I64 (gi x 0) ∧ I64 (gi x 1) ∧ I64 (gi x 2) ∧ LW W_Item (gl x 3) ∧ I64 (gi x 4) ∧ I64 (gi x 5) ∧ I64 (gi x 6) ∧ I64 (gi x 7) ∧ LW W_bool (gl x 8) ∧ LW W_int (gl x 9) ∧ LW W_int (gl x 10) ∧ LW W_Msg (gl x 11)
def z_server (x : V) : Nat := zS z_Item (gl x 3) + zS z0 (gl x 8) + zS z0 (gl x 9) + zS z0 (gl x 10) + zS z_Msg (gl x 11)
def c_server (x : V) : Nat := 1 + 1 + 1 + sumL c_Item (gl x 3) + 1 + 1 + 1 + 1 + sumL c1 (gl x 8) + sumL c1 (gl x 9) + sumL c1 (gl x 10) + sumL c_Msg (gl x 11)
def ct_server (x : V) : Nat := sumL c_Item (gl x 3) + sumL c1 (gl x 8) + sumL c1 (gl x 9) + sumL c1 (gl x 10) + sumL c_Msg (gl x 11)
def M_server (x : V) (k : Int) : Prop := gi x 0 = k ∧ gi x 1 = k + 1 ∧ gi x 2 = k + 1 + 1 ∧ MS c_Item M_Item (gl x 3) (k + 1 + 1 + 1) ∧ gi x 4 = k + 1 + 1 + 1 + ((sumL c_Item (gl x 3) : Nat) : Int) ∧ gi x 5 = k + 1 + 1 + 1 + ((sumL c_Item (gl x 3) : Nat) : Int) + 1 ∧ gi x 6 = k + 1 + 1 + 1 + ((sumL c_Item (gl x 3) : Nat) : Int) + 1 + 1 ∧ gi x 7 = k + 1 + 1 + 1 + ((sumL c_Item (gl x 3) : Nat) : Int) + 1 + 1 + 1 ∧ MS c1 M_bool (gl x 8) (k + 1 + 1 + 1 + ((sumL c_Item (gl x 3) : Nat) : Int) + 1 + 1 + 1 + 1) ∧ MS c1 M_int (gl x 9) (k + 1 + 1 + 1 + ((sumL c_Item (gl x 3) : Nat) : Int) + 1 + 1 + 1 + 1 + ((sumL c1 (gl x 8) : Nat) : Int)) ∧ MS c1 M_int (gl x 10) (k + 1 + 1 + 1 + ((sumL c_Item (gl x 3) : Nat) : Int) + 1 + 1 + 1 + 1 + ((sumL c1 (gl x 8) : Nat) : Int) + ((sumL c1 (gl x 9) : Nat) : Int)) ∧ MS c_Msg M_Msg (gl x 11) (k + 1 + 1 + 1 + ((sumL c_Item (gl x 3) : Nat) : Int) + 1 + 1 + 1 + 1 + ((sumL c1 (gl x 8) : Nat) : Int) + ((sumL c1 (gl x 9) : Nat) : Int) + ((sumL c1 (gl x 10) : Nat) : Int))
def cnv_server (x : V) : V := V.agg [(V.int .i64 (gi x 0)), (V.int .i64 (gi x 1)), (V.int .i64 (gi x 2)), V.inl t_impl_Item ((gl x 3).map cnv_Item), (V.int .i64 (gi x 4)), (V.int .i64 (gi x 5)), (V.int .i64 (gi x 6)), (V.int .i64 (gi x 7)), V.inl t_bool ((gl x 8).map cnv_bool), V.inl t_int' ((gl x 9).map cnv_int), V.inl t_int' ((gl x 10).map cnv_int), V.inl t_impl_Msg ((gl x 11).map cnv_Msg)]
theorem cnv_server_W (x : V) (h : W_server x) : W_server (cnv_server x) := ⟨h.1, h.2.1, h.2.2.1, LW.map (h := cnv_Item) cnv_Item_W (h.2.2.2.1), h.2.2.2.2.1, h.2.2.2.2.2.1, h.2.2.2.2.2.2.1, h.2.2.2.2.2.2.2.1, LW.map (h := cnv_bool) cnv_bool_W (h.2.2.2.2.2.2.2.2.1), LW.map (h := cnv_int) cnv_int_W (h.2.2.2.2.2.2.2.2.2.1), LW.map (h := cnv_int) cnv_int_W (h.2.2.2.2.2.2.2.2.2.2.1), LW.map (h := cnv_Msg) cnv_Msg_W (h.2.2.2.2.2.2.2.2.2.2.2)⟩
theorem cnv_server_z (x : V) : z_server (cnv_server x) = z_server x := by
  simp only [z_server, show gl (cnv_server x) 3 = (gl x 3).map cnv_Item from rfl, show gl (cnv_server x) 8 = (gl x 8).map cnv_bool from rfl, show gl (cnv_server x) 9 = (gl x 9).map cnv_int from rfl, show gl (cnv_server x) 10 = (gl x 10).map cnv_int from rfl, show gl (cnv_server x) 11 = (gl x 11).map cnv_Msg from rfl, zS_map (h := cnv_Item) cnv_Item_z (gl x 3), zS_map (h := cnv_bool) cnv_bool_z (gl x 8), zS_map (h := cnv_int) cnv_int_z (gl x 9), zS_map (h := cnv_int) cnv_int_z (gl x 10), zS_map (h := cnv_Msg) cnv_Msg_z (gl x 11)]
theorem cnv_server_c (x : V) : c_server (cnv_server x) = c_server x := by
  simp only [c_server, show gl (cnv_server x) 3 = (gl x 3).map cnv_Item from rfl, show gl (cnv_server x) 8 = (gl x 8).map cnv_bool from rfl, show gl (cnv_server x) 9 = (gl x 9).map cnv_int from rfl, show gl (cnv_server x) 10 = (gl x 10).map cnv_int from rfl, show gl (cnv_server x) 11 = (gl x 11).map cnv_Msg from rfl, sumL_map (h := cnv_Item) cnv_Item_c (gl x 3), sumL_map (h := cnv_bool) cnv_bool_c (gl x 8), sumL_map (h := cnv_int) cnv_int_c (gl x 9), sumL_map (h := cnv_int) cnv_int_c (gl x 10), sumL_map (h := cnv_Msg) cnv_Msg_c (gl x 11)]
theorem cnv_server_ct (x : V) : ct_server (cnv_server x) = ct_server x := by
  simp only [ct_server, show gl (cnv_server x) 3 = (gl x 3).map cnv_Item from rfl, show gl (cnv_server x) 8 = (gl x 8).map cnv_bool from rfl, show gl (cnv_server x) 9 = (gl x 9).map cnv_int from rfl, show gl (cnv_server x) 10 = (gl x 10).map cnv_int from rfl, show gl (cnv_server x) 11 = (gl x 11).map cnv_Msg from rfl, sumL_map (h := cnv_Item) cnv_Item_c (gl x 3), sumL_map (h := cnv_bool) cnv_bool_c (gl x 8), sumL_map (h := cnv_int) cnv_int_c (gl x 9), sumL_map (h := cnv_int) cnv_int_c (gl x 10), sumL_map (h := cnv_Msg) cnv_Msg_c (gl x 11)]
theorem c_server_cz (x : V) : c_server x ≤ 8 * (1 + z_server x) := by
  have h0 : sumL c_Item (gl x 3) ≤ 5 * zS z_Item (gl x 3) := sumL_mul 5 fun y _ => c_Item_cz y
  have h1 : sumL c1 (gl x 8) ≤ 1 * zS z0 (gl x 8) := by rw [sumL_c1, zS_z0]; omega
  have h2 : sumL c1 (gl x 9) ≤ 1 * zS z0 (gl x 9) := by rw [sumL_c1, zS_z0]; omega
  have h3 : sumL c1 (gl x 10) ≤ 1 * zS z0 (gl x 10) := by rw [sumL_c1, zS_z0]; omega
  have h4 : sumL c_Msg (gl x 11) ≤ 8 * zS z_Msg (gl x 11) := sumL_mul 8 fun y _ => c_Msg_cz y
  simp only [c_server, z_server]; omega
theorem ct_server_cz (x : V) : ct_server x ≤ 8 * z_server x := by
  have h0 : sumL c_Item (gl x 3) ≤ 5 * zS z_Item (gl x 3) := sumL_mul 5 fun y _ => c_Item_cz y
  have h1 : sumL c1 (gl x 8) ≤ 1 * zS z0 (gl x 8) := by rw [sumL_c1, zS_z0]; omega
  have h2 : sumL c1 (gl x 9) ≤ 1 * zS z0 (gl x 9) := by rw [sumL_c1, zS_z0]; omega
  have h3 : sumL c1 (gl x 10) ≤ 1 * zS z0 (gl x 10) := by rw [sumL_c1, zS_z0]; omega
  have h4 : sumL c_Msg (gl x 11) ≤ 8 * zS z_Msg (gl x 11) := sumL_mul 8 fun y _ => c_Msg_cz y
  simp only [ct_server, z_server]; omega
theorem laws_szByteS_ok (a : List V) (left : Int) (ha : LW W_byte a) (h0 : 0 ≤ left) (h1 : left ≤ 1048576) : ∃ r, laws_szByteS a left = r ∧ (r < 0 ∨ (0 ≤ r ∧ r ≤ 1048576 ∧ r + ((zS z0 a : Nat) : Int) = left)) := by
  have hl := ha.1
  unfold laws_szByteS
  rw [wr64' (by omega) (by omega)]
  by_cases h : left - ((a.length : Nat) : Int) < 0
  · exact ⟨-1, by simp [h], .inl (by omega)⟩
  · exact ⟨left - ((a.length : Nat) : Int), by simp [h], .inr ⟨by omega, by omega, by rw [zS_z0]; omega⟩⟩
theorem laws_szOp_ok (x : V) (left : Int) (hx : W_Op x) (h0 : 0 ≤ left) (h1 : left ≤ 1048576) : ∃ r, laws_szOp x left = r ∧ (r < 0 ∨ (0 ≤ r ∧ r ≤ 1048576 ∧ r + ((z_Op x : Nat) : Int) = left)) := by
  unfold laws_szOp
  obtain ⟨r0, e0, q0⟩ := laws_szByteS_ok (gl x 1) left hx.2.1 h0 h1
  simp only [e0, Option.bind_some]
  rcases q0 with q0 | ⟨a0, b0, s0⟩
  · exact ⟨-1, by simp only [show decide (r0 < 0) = true from by simp; omega, cond_true], .inl (by omega)⟩
  simp only [show decide (r0 < 0) = false from by simp; omega, cond_false]
  obtain ⟨r1, e1, q1⟩ := laws_szByteS_ok (gl x 2) r0 hx.2.2.1 a0 b0
  simp only [e1, Option.bind_some]
  rcases q1 with q1 | ⟨a1, b1, s1⟩
  · exact ⟨-1, by simp only [show decide (r1 < 0) = true from by simp; omega, cond_true], .inl (by omega)⟩
  simp only [show decide (r1 < 0) = false from by simp; omega, cond_false]
  exact ⟨r1, rfl, .inr ⟨a1, b1, by simp only [z_Op]; omega⟩⟩
theorem laws_szCmd_ok (x : V) (left : Int) (hx : W_Cmd x) (h0 : 0 ≤ left) (h1 : left ≤ 1048576) : ∃ r, laws_szCmd x left = r ∧ (r < 0 ∨ (0 ≤ r ∧ r ≤ 1048576 ∧ r + ((z_Cmd x : Nat) : Int) = left)) := by
  unfold laws_szCmd
  obtain ⟨r0, e0, q0⟩ := laws_szOp_ok (V.agg [(V.int .i64 (gi x 2)), (V.inl t_byte (gl x 3)), (V.inl t_byte (gl x 4)), (V.int .i64 (gi x 5))]) left ⟨hx.2.2.1, hx.2.2.2.1, hx.2.2.2.2.1, hx.2.2.2.2.2⟩ h0 h1
  simp only [e0, Option.bind_some]
  rcases q0 with q0 | ⟨a0, b0, s0⟩
  · exact ⟨-1, by simp only [show decide (r0 < 0) = true from by simp; omega, cond_true], .inl (by omega)⟩
  simp only [show decide (r0 < 0) = false from by simp; omega, cond_false]
  have s0 : r0 + ((z_Op (V.agg [(V.int .i64 (gi x 2)), (V.inl t_byte (gl x 3)), (V.inl t_byte (gl x 4)), (V.int .i64 (gi x 5))]) : Nat) : Int) = left := s0
  simp only [z_Op, gl_c0, gl_cs] at s0
  exact ⟨r0, rfl, .inr ⟨a0, b0, by simp only [z_Cmd]; omega⟩⟩
theorem laws_szItem_ok (x : V) (left : Int) (hx : W_Item x) (h0 : 0 ≤ left) (h1 : left ≤ 1048576) : ∃ r, laws_szItem x left = r ∧ (r < 0 ∨ (0 ≤ r ∧ r ≤ 1048576 ∧ r + ((z_Item x : Nat) : Int) = left)) := by
  unfold laws_szItem
  obtain ⟨r0, e0, q0⟩ := laws_szCmd_ok (V.agg [(V.int .i64 (gi x 1)), (V.int .i64 (gi x 2)), (V.int .i64 (gi x 3)), (V.inl t_byte (gl x 4)), (V.inl t_byte (gl x 5)), (V.int .i64 (gi x 6))]) left ⟨hx.2.1, hx.2.2.1, hx.2.2.2.1, hx.2.2.2.2.1, hx.2.2.2.2.2.1, hx.2.2.2.2.2.2⟩ h0 h1
  simp only [e0, Option.bind_some]
  rcases q0 with q0 | ⟨a0, b0, s0⟩
  · exact ⟨-1, by simp only [show decide (r0 < 0) = true from by simp; omega, cond_true], .inl (by omega)⟩
  simp only [show decide (r0 < 0) = false from by simp; omega, cond_false]
  have s0 : r0 + ((z_Cmd (V.agg [(V.int .i64 (gi x 1)), (V.int .i64 (gi x 2)), (V.int .i64 (gi x 3)), (V.inl t_byte (gl x 4)), (V.inl t_byte (gl x 5)), (V.int .i64 (gi x 6))]) : Nat) : Int) = left := s0
  simp only [z_Cmd, gl_c0, gl_cs] at s0
  exact ⟨r0, rfl, .inr ⟨a0, b0, by simp only [z_Item]; omega⟩⟩
theorem laws_szItemS_ok (a : List V) (left : Int) (ha : LW W_Item a) (h0 : 0 ≤ left) (h1 : left ≤ 1048576) : ∃ r, laws_szItemS a left = some (r) ∧ (r < 0 ∨ (0 ≤ r ∧ r ≤ 1048576 ∧ r + ((zS z_Item a : Nat) : Int) = left)) := by
  have hl := ha.1
  unfold laws_szItemS
  rw [wr64' (by omega) (by omega)]
  by_cases h : left - ((a.length : Nat) : Int) < 0
  · exact ⟨-1, by simp [h], .inl (by omega)⟩
  rw [show decide (left - ((a.length : Nat) : Int) < 0) = false from by simp; omega, cond_false, fuel_eq]
  have key : (fun q : Option (Nat × Int × Int) => ∃ p, q = some p ∧ ((p.1 = 0 ∧ p.2.2 = -1) ∨ (p.1 = 1 ∧ 0 ≤ p.2.1 ∧ p.2.1 ≤ 1048576 ∧ p.2.1 + ((sumL z_Item a : Nat) : Int) = left - ((a.length : Nat) : Int)))) (laws_szItemS_l5 (a.length + 1) a (left - ((a.length : Nat) : Int)) 0) := by
    refine loop_run0 (F := fun m s i => laws_szItemS_l5 m a s i) (fun i s => 0 ≤ s ∧ s ≤ 1048576 ∧ s + ((sumL z_Item (a.take i) : Nat) : Int) = left - ((a.length : Nat) : Int)) (fun q : Option (Nat × Int × Int) => ∃ p, q = some p ∧ ((p.1 = 0 ∧ p.2.2 = -1) ∨ (p.1 = 1 ∧ 0 ≤ p.2.1 ∧ p.2.1 ≤ 1048576 ∧ p.2.1 + ((sumL z_Item a : Nat) : Int) = left - ((a.length : Nat) : Int)))) ?_ ?_ (s := left - ((a.length : Nat) : Int)) ⟨by omega, by omega, by simp [sumL]⟩
    · intro m i s hi hI
      obtain ⟨r, e, hr⟩ := laws_szItem_ok (n_impl_Item (rd a i)) s (ha.rd hi) hI.1 hI.2.1
      simp only [laws_szItemS_l5, lt_nat hi, idxOk_nat hi, Int.toNat_natCast, cond_true, e, Option.bind_some, wr_succ hi hl]
      rcases hr with hr | ⟨r1, r2, r3⟩
      · exact .inr ⟨_, by rw [show decide (r < 0) = true from by simp [hr], cond_true], .inl ⟨rfl, rfl⟩⟩
      · refine .inl ⟨r, by rw [show decide (r < 0) = false from by simp; omega, cond_false], r1, r2, ?_⟩
        rw [sum_take_succ _ hi]
        have r3 : r + ((z_Item (rd a i) : Nat) : Int) = s := r3
        omega
    · intro m s hI
      refine ⟨(1, s, 0), by simp only [laws_szItemS_l5, lt_self, cond_false], .inr ⟨rfl, hI.1, hI.2.1, ?_⟩⟩
      rw [List.take_length] at hI; exact hI.2.2
  obtain ⟨p, e, hp⟩ := key
  rw [e, Option.bind_some]
  rcases hp with ⟨p1, p2⟩ | ⟨p1, p2, p3, p4⟩
  · exact ⟨_, by rw [p1]; rfl, .inl (by omega)⟩
  · exact ⟨p.2.1, by rw [p1]; rfl, .inr ⟨p2, p3, by simp only [zS]; omega⟩⟩
theorem laws_szBoolS_ok (a : List V) (left : Int) (ha : LW W_bool a) (h0 : 0 ≤ left) (h1 : left ≤ 1048576) : ∃ r, laws_szBoolS a left = r ∧ (r < 0 ∨ (0 ≤ r ∧ r ≤ 1048576 ∧ r + ((zS z0 a : Nat) : Int) = left)) := by
  have hl := ha.1
  unfold laws_szBoolS
  rw [wr64' (by omega) (by omega)]
  by_cases h : left - ((a.length : Nat) : Int) < 0
  · exact ⟨-1, by simp [h], .inl (by omega)⟩
  · exact ⟨left - ((a.length : Nat) : Int), by simp [h], .inr ⟨by omega, by omega, by rw [zS_z0]; omega⟩⟩
theorem laws_szIntS_ok (a : List V) (left : Int) (ha : LW W_int a) (h0 : 0 ≤ left) (h1 : left ≤ 1048576) : ∃ r, laws_szIntS a left = r ∧ (r < 0 ∨ (0 ≤ r ∧ r ≤ 1048576 ∧ r + ((zS z0 a : Nat) : Int) = left)) := by
  have hl := ha.1
  unfold laws_szIntS
  rw [wr64' (by omega) (by omega)]
  by_cases h : left - ((a.length : Nat) : Int) < 0
  · exact ⟨-1, by simp [h], .inl (by omega)⟩
  · exact ⟨left - ((a.length : Nat) : Int), by simp [h], .inr ⟨by omega, by omega, by rw [zS_z0]; omega⟩⟩
theorem laws_szNode_ok (x : V) (left : Int) (hx : W_Node x) (h0 : 0 ≤ left) (h1 : left ≤ 1048576) : ∃ r, laws_szNode x left = some (r) ∧ (r < 0 ∨ (0 ≤ r ∧ r ≤ 1048576 ∧ r + ((z_Node x : Nat) : Int) = left)) := by
  unfold laws_szNode
  obtain ⟨r0, e0, q0⟩ := laws_szItemS_ok (gl x 3) left hx.2.2.2.1 h0 h1
  simp only [e0, Option.bind_some]
  rcases q0 with q0 | ⟨a0, b0, s0⟩
  · exact ⟨-1, by simp only [show decide (r0 < 0) = true from by simp; omega, cond_true], .inl (by omega)⟩
  simp only [show decide (r0 < 0) = false from by simp; omega, cond_false]
  obtain ⟨r1, e1, q1⟩ := laws_szBoolS_ok (gl x 8) r0 hx.2.2.2.2.2.2.2.2.1 a0 b0
  simp only [e1, Option.bind_some]
  rcases q1 with q1 | ⟨a1, b1, s1⟩
  · exact ⟨-1, by simp only [show decide (r1 < 0) = true from by simp; omega, cond_true], .inl (by omega)⟩
  simp only [show decide (r1 < 0) = false from by simp; omega, cond_false]
  obtain ⟨r2, e2, q2⟩ := laws_szIntS_ok (gl x 9) r1 hx.2.2.2.2.2.2.2.2.2.1 a1 b1
  simp only [e2, Option.bind_some]
  rcases q2 with q2 | ⟨a2, b2, s2⟩
  · exact ⟨-1, by simp only [show decide (r2 < 0) = true from by simp; omega, cond_true], .inl (by omega)⟩
  simp only [show decide (r2 < 0) = false from by simp; omega, cond_false]
  obtain ⟨r3, e3, q3⟩ := laws_szIntS_ok (gl x 10) r2 hx.2.2.2.2.2.2.2.2.2.2 a2 b2
  simp only [e3, Option.bind_some]
  rcases q3 with q3 | ⟨a3, b3, s3⟩
  · exact ⟨-1, by simp only [show decide (r3 < 0) = true from by simp; omega, cond_true], .inl (by omega)⟩
  simp only [show decide (r3 < 0) = false from by simp; omega, cond_false]
  exact ⟨r3, rfl, .inr ⟨a3, b3, by simp only [z_Node]; omega⟩⟩
theorem laws_toByteS_ok (a : List V) (ha : LW W_byte a) (hz : zS z0 a ≤ 1048576) : laws_toByteS a = some (a.map cnv_byte) := by
  have hl := ha.1
  have hn : a.length ≤ 1048576 := by simp only [zS] at hz; omega
  unfold laws_toByteS
  rw [fuel_eq, show (((a.length : Nat) : Int)).toNat = a.length from by omega, roomy_of (n := a.length) (by omega) hl]
  simp only [Int.natCast_nonneg, decide_true, Bool.and_self, cond_true]
  rw [to_loop (F := fun m r i => laws_toByteS_l3 m a i r) (f := cnv_byte) ?_ ?_ (by simp)]
  · rfl
  · intro m i r hi hr
    have hr' : i < r.length := by omega
    simp only [laws_toByteS_l3, lt_nat hi, idxOk_nat hi, idxOk_nat hr', Int.toNat_natCast, Nat.zero_add, cond_true, Option.bind_some, wr_succ hi hl]
    rfl
  · intro m r
    simp only [laws_toByteS_l3, lt_self, cond_false]
theorem laws_toOp_ok (x : V) (hx : W_Op x) (hz : z_Op x ≤ 1048576) : laws_toOp x = some (cnv_Op x) := by
  simp only [z_Op] at hz
  unfold laws_toOp
  rw [laws_toByteS_ok (gl x 1) hx.2.1 (by omega)]
  simp only [Option.bind_some]
  rw [laws_toByteS_ok (gl x 2) hx.2.2.1 (by omega)]
  simp only [Option.bind_some]
  rfl
theorem laws_toCmd_ok (x : V) (hx : W_Cmd x) (hz : z_Cmd x ≤ 1048576) : laws_toCmd x = some (cnv_Cmd x) := by
  simp only [z_Cmd] at hz
  unfold laws_toCmd
  rw [laws_toOp_ok (V.agg [(V.int .i64 (gi x 2)), (V.inl t_byte (gl x 3)), (V.inl t_byte (gl x 4)), (V.int .i64 (gi x 5))]) ⟨hx.2.2.1, hx.2.2.2.1, hx.2.2.2.2.1, hx.2.2.2.2.2⟩ (by simp only [z_Op, gl_c0, gl_cs]; omega)]
  simp only [Option.bind_some]
  rfl
theorem laws_toItem_ok (x : V) (hx : W_Item x) (hz : z_Item x ≤ 1048576) : laws_toItem x = some (cnv_Item x) := by
  simp only [z_Item] at hz
  unfold laws_toItem
  rw [laws_toCmd_ok (V.agg [(V.int .i64 (gi x 1)), (V.int .i64 (gi x 2)), (V.int .i64 (gi x 3)), (V.inl t_byte (gl x 4)), (V.inl t_byte (gl x 5)), (V.int .i64 (gi x 6))]) ⟨hx.2.1, hx.2.2.1, hx.2.2.2.1, hx.2.2.2.2.1, hx.2.2.2.2.2.1, hx.2.2.2.2.2.2⟩ (by simp only [z_Cmd, gl_c0, gl_cs]; omega)]
  simp only [Option.bind_some]
  rfl
theorem laws_toItemS_ok (a : List V) (ha : LW W_Item a) (hz : zS z_Item a ≤ 1048576) : laws_toItemS a = some (a.map cnv_Item) := by
  have hl := ha.1
  have hn : a.length ≤ 1048576 := by simp only [zS] at hz; omega
  unfold laws_toItemS
  rw [fuel_eq, show (((a.length : Nat) : Int)).toNat = a.length from by omega, roomy_of (n := a.length) (by omega) hl]
  simp only [Int.natCast_nonneg, decide_true, Bool.and_self, cond_true]
  have hz' : ∀ i, i < a.length → z_Item (rd a i) ≤ 1048576 := fun i hi => by
    have := sum_take_succ z_Item hi
    have := sumL_take_le z_Item a (i + 1)
    simp only [zS] at hz; omega
  rw [to_loop (F := fun m r i => laws_toItemS_l3 m a i r) (f := cnv_Item) ?_ ?_ (by simp)]
  · rfl
  · intro m i r hi hr
    have hr' : i < r.length := by omega
    have e := laws_toItem_ok (n_impl_Item (rd a i)) (ha.rd hi) (hz' i hi)
    simp only [laws_toItemS_l3, lt_nat hi, idxOk_nat hi, idxOk_nat hr', Int.toNat_natCast, Nat.zero_add, cond_true, e, Option.bind_some, wr_succ hi hl]
    rfl
  · intro m r
    simp only [laws_toItemS_l3, lt_self, cond_false]
theorem laws_toBoolS_ok (a : List V) (ha : LW W_bool a) (hz : zS z0 a ≤ 1048576) : laws_toBoolS a = some (a.map cnv_bool) := by
  have hl := ha.1
  have hn : a.length ≤ 1048576 := by simp only [zS] at hz; omega
  unfold laws_toBoolS
  rw [fuel_eq, show (((a.length : Nat) : Int)).toNat = a.length from by omega, roomy_of (n := a.length) (by omega) hl]
  simp only [Int.natCast_nonneg, decide_true, Bool.and_self, cond_true]
  rw [to_loop (F := fun m r i => laws_toBoolS_l3 m a i r) (f := cnv_bool) ?_ ?_ (by simp)]
  · rfl
  · intro m i r hi hr
    have hr' : i < r.length := by omega
    simp only [laws_toBoolS_l3, lt_nat hi, idxOk_nat hi, idxOk_nat hr', Int.toNat_natCast, Nat.zero_add, cond_true, Option.bind_some, wr_succ hi hl]
    rfl
  · intro m r
    simp only [laws_toBoolS_l3, lt_self, cond_false]
theorem laws_toIntS_ok (a : List V) (ha : LW W_int a) (hz : zS z0 a ≤ 1048576) : laws_toIntS a = some (a.map cnv_int) := by
  have hl := ha.1
  have hn : a.length ≤ 1048576 := by simp only [zS] at hz; omega
  unfold laws_toIntS
  rw [fuel_eq, show (((a.length : Nat) : Int)).toNat = a.length from by omega, roomy_of (n := a.length) (by omega) hl]
  simp only [Int.natCast_nonneg, decide_true, Bool.and_self, cond_true]
  rw [to_loop (F := fun m r i => laws_toIntS_l3 m a i r) (f := cnv_int) ?_ ?_ (by simp)]
  · rfl
  · intro m i r hi hr
    have hr' : i < r.length := by omega
    simp only [laws_toIntS_l3, lt_nat hi, idxOk_nat hi, idxOk_nat hr', Int.toNat_natCast, Nat.zero_add, cond_true, Option.bind_some, wr_succ hi hl]
    rfl
  · intro m r
    simp only [laws_toIntS_l3, lt_self, cond_false]
theorem laws_toNode_ok (x : V) (hx : W_Node x) (hz : z_Node x ≤ 1048576) : laws_toNode x = some (cnv_Node x) := by
  simp only [z_Node] at hz
  unfold laws_toNode
  rw [laws_toItemS_ok (gl x 3) hx.2.2.2.1 (by omega)]
  simp only [Option.bind_some]
  rw [laws_toBoolS_ok (gl x 8) hx.2.2.2.2.2.2.2.2.1 (by omega)]
  simp only [Option.bind_some]
  rw [laws_toIntS_ok (gl x 9) hx.2.2.2.2.2.2.2.2.2.1 (by omega)]
  simp only [Option.bind_some]
  rw [laws_toIntS_ok (gl x 10) hx.2.2.2.2.2.2.2.2.2.2 (by omega)]
  simp only [Option.bind_some]
  rfl
theorem laws_eqByteS_ok (a : List V) (ha : LW W_byte a) : laws_eqByteS a a = some (true) := by
  have hl := ha.1
  unfold laws_eqByteS
  simp only [decide_true, Bool.not_true, cond_false]
  rw [fuel_eq]
  rw [skip_loop (F := fun m i => laws_eqByteS_l4 m a a i) (n := a.length) (out := some (1, false)) ?_ ?_]
  · rfl
  · intro m i hi
    simp only [laws_eqByteS_l4, lt_nat hi, idxOk_nat hi, Int.toNat_natCast, cond_true, Option.bind_some, wr_succ hi hl, decide_true, beq_self_eq_true, Bool.not_true, cond_false]
  · intro m
    simp only [laws_eqByteS_l4, lt_self, cond_false]
theorem laws_eqOp_ok (x : V) (hx : W_Op x) : laws_eqOp x x = some (true) := by
  unfold laws_eqOp
  simp only [decide_true, beq_self_eq_true, Bool.not_true, cond_false, cond_true, Option.bind_some, laws_eqByteS_ok (gl x 1) hx.2.1, laws_eqByteS_ok (gl x 2) hx.2.2.1]
theorem laws_eqCmd_ok (x : V) (hx : W_Cmd x) : laws_eqCmd x x = some (true) := by
  unfold laws_eqCmd
  simp only [decide_true, beq_self_eq_true, Bool.not_true, cond_false, cond_true, Option.bind_some, laws_eqOp_ok (V.agg [(V.int .i64 (gi x 2)), (V.inl t_byte (gl x 3)), (V.inl t_byte (gl x 4)), (V.int .i64 (gi x 5))]) ⟨hx.2.2.1, hx.2.2.2.1, hx.2.2.2.2.1, hx.2.2.2.2.2⟩]
theorem laws_eqItem_ok (x : V) (hx : W_Item x) : laws_eqItem x x = some (true) := by
  unfold laws_eqItem
  simp only [decide_true, beq_self_eq_true, Bool.not_true, cond_false, cond_true, Option.bind_some, laws_eqCmd_ok (V.agg [(V.int .i64 (gi x 1)), (V.int .i64 (gi x 2)), (V.int .i64 (gi x 3)), (V.inl t_byte (gl x 4)), (V.inl t_byte (gl x 5)), (V.int .i64 (gi x 6))]) ⟨hx.2.1, hx.2.2.1, hx.2.2.2.1, hx.2.2.2.2.1, hx.2.2.2.2.2.1, hx.2.2.2.2.2.2⟩]
theorem laws_eqItemS_ok (a : List V) (ha : LW W_Item a) : laws_eqItemS a a = some (true) := by
  have hl := ha.1
  unfold laws_eqItemS
  simp only [decide_true, Bool.not_true, cond_false]
  rw [fuel_eq]
  rw [skip_loop (F := fun m i => laws_eqItemS_l4 m a a i) (n := a.length) (out := some (1, false)) ?_ ?_]
  · rfl
  · intro m i hi
    have e := laws_eqItem_ok (n_impl_Item (rd a i)) (ha.rd hi)
    simp only [laws_eqItemS_l4, lt_nat hi, idxOk_nat hi, Int.toNat_natCast, cond_true, e, Option.bind_some, wr_succ hi hl, decide_true, beq_self_eq_true, Bool.not_true, cond_false]
  · intro m
    simp only [laws_eqItemS_l4, lt_self, cond_false]
theorem laws_eqBoolS_ok (a : List V) (ha : LW W_bool a) : laws_eqBoolS a a = some (true) := by
  have hl := ha.1
  unfold laws_eqBoolS
  simp only [decide_true, Bool.not_true, cond_false]
  rw [fuel_eq]
  rw [skip_loop (F := fun m i => laws_eqBoolS_l4 m a a i) (n := a.length) (out := some (1, false)) ?_ ?_]
  · rfl
  · intro m i hi
    simp only [laws_eqBoolS_l4, lt_nat hi, idxOk_nat hi, Int.toNat_natCast, cond_true, Option.bind_some, wr_succ hi hl, decide_true, beq_self_eq_true, Bool.not_true, cond_false]
  · intro m
    simp only [laws_eqBoolS_l4, lt_self, cond_false]
theorem laws_eqIntS_ok (a : List V) (ha : LW W_int a) : laws_eqIntS a a = some (true) := by
  have hl := ha.1
  unfold laws_eqIntS
  simp only [decide_true, Bool.not_true, cond_false]
  rw [fuel_eq]
  rw [skip_loop (F := fun m i => laws_eqIntS_l4 m a a i) (n := a.length) (out := some (1, false)) ?_ ?_]
  · rfl
  · intro m i hi
    simp only [laws_eqIntS_l4, lt_nat hi, idxOk_nat hi, Int.toNat_natCast, cond_true, Option.bind_some, wr_succ hi hl, decide_true, beq_self_eq_true, Bool.not_true, cond_false]
  · intro m
    simp only [laws_eqIntS_l4, lt_self, cond_false]
theorem laws_eqNode_ok (x : V) (hx : W_Node x) : laws_eqNode x x = some (true) := by
  unfold laws_eqNode
  simp only [decide_true, beq_self_eq_true, Bool.not_true, cond_false, cond_true, Option.bind_some, laws_eqItemS_ok (gl x 3) hx.2.2.2.1, laws_eqBoolS_ok (gl x 8) hx.2.2.2.2.2.2.2.2.1, laws_eqIntS_ok (gl x 9) hx.2.2.2.2.2.2.2.2.2.1, laws_eqIntS_ok (gl x 10) hx.2.2.2.2.2.2.2.2.2.2]
theorem laws_markByteS_ok (a : List V) (k : Int) (ha : LW W_byte a) (hk : 0 ≤ k) (hs : k + ((sumL c1 a : Nat) : Int) ≤ 9223372036854775807) : ∃ b, laws_markByteS a k = some (k + ((sumL c1 a : Nat) : Int), b) ∧ MS c1 M_byte b k ∧ sumL c1 b = sumL c1 a := by
  have hl := ha.1
  unfold laws_markByteS
  rw [fuel_eq]
  obtain ⟨b, e1, e2, e3, e4⟩ := mark_loop (F := fun m k i r => laws_markByteS_l2 m k i r) (c := c1) (M := M_byte) (w := W_byte) (by
    intro x k hx hk hs
    simp only [c1] at hs
    refine ⟨V.int .u8 (IntKind.u8.wrap k), rfl, rfl, fun m pre rest hlen => ?_⟩
    have hi : pre.length < (pre ++ x :: rest).length := by simp
    simp only [laws_markByteS_l2, lt_mid, idxOk_mid, Int.toNat_natCast, Nat.zero_add, set_mid, cond_true, wr_succ hi hlen]
    rw [wr64' (by omega) (by omega)]
    rfl)
    (by intro m k pre; simp only [laws_markByteS_l2, lt_self, cond_false]) a (a.length + 1) k [] (by omega) (by simpa using hl) ha.2 hk hs
  simp only [List.nil_append, List.length_nil, Int.natCast_zero] at e4
  rw [e4]
  exact ⟨b, rfl, ⟨by omega, e3⟩, e2⟩
theorem laws_markItemS_ok (a : List V) (k : Int) (ha : LW W_Item a) (hk : 0 ≤ k) (hs : k + ((sumL c_Item a : Nat) : Int) ≤ 9223372036854775807) : ∃ b, laws_markItemS a k = some (k + ((sumL c_Item a : Nat) : Int), b) ∧ MS c_Item M_Item b k ∧ sumL c_Item b = sumL c_Item a := by
  have hl := ha.1
  unfold laws_markItemS
  rw [fuel_eq]
  obtain ⟨b, e1, e2, e3, e4⟩ := mark_loop (F := fun m k i r => laws_markItemS_l2 m k i r) (c := c_Item) (M := M_Item) (w := W_Item) (by
    intro x k hx hk hs
    simp only [c_Item] at hs
    obtain ⟨b0, f0, g0, s0⟩ := laws_markByteS_ok (gl x 4) (k + 1 + 1 + 1 + 1) (hx.2.2.2.2.1) (by omega) (by omega)
    obtain ⟨b1, f1, g1, s1⟩ := laws_markByteS_ok (gl x 5) (k + 1 + 1 + 1 + 1 + ((sumL c1 (gl x 4) : Nat) : Int)) (hx.2.2.2.2.2.1) (by omega) (by omega)
    refine ⟨V.agg [V.int .i64 (k), V.int .i64 (k + 1), V.int .i64 (k + 1 + 1), V.int .i64 (k + 1 + 1 + 1), V.inl t_byte b0, V.inl t_byte b1, V.int .i64 (k + 1 + 1 + 1 + 1 + ((sumL c1 (gl x 4) : Nat) : Int) + ((sumL c1 (gl x 5) : Nat) : Int))], ?_, ?_, fun m pre rest hlen => ?_⟩
    · simp only [M_Item, gl_c0, gl_cs, gi_c0, gi_cs, gb_c0, gb_cs, and_true, true_and, s0, s1]
      exact ⟨g0, g1⟩
    · simp only [c_Item, gl_c0, gl_cs, s0, s1]
    · have hi : pre.length < (pre ++ x :: rest).length := by simp
      simp (disch := omega) only [laws_markItemS_l2, rlet, lt_mid, idxOk_mid, Int.toNat_natCast, Nat.zero_add, set_mid, rd_mid, gi_c0, gi_cs, gl_c0, gl_cs, gb_c0, gb_cs, cond_true, wr_succ hi hlen, wr64', Option.bind_some, f0, f1]
      congr 1
      simp only [c_Item]; omega)
    (by intro m k pre; simp only [laws_markItemS_l2, lt_self, cond_false]) a (a.length + 1) k [] (by omega) (by simpa using hl) ha.2 hk hs
  simp only [List.nil_append, List.length_nil, Int.natCast_zero] at e4
  rw [e4]
  exact ⟨b, rfl, ⟨by omega, e3⟩, e2⟩
theorem laws_markBoolS_ok (a : List V) (k : Int) (ha : LW W_bool a) (hk : 0 ≤ k) (hs : k + ((sumL c1 a : Nat) : Int) ≤ 9223372036854775807) : ∃ b, laws_markBoolS a k = some (k + ((sumL c1 a : Nat) : Int), b) ∧ MS c1 M_bool b k ∧ sumL c1 b = sumL c1 a := by
  have hl := ha.1
  unfold laws_markBoolS
  rw [fuel_eq]
  obtain ⟨b, e1, e2, e3, e4⟩ := mark_loop (F := fun m k i r => laws_markBoolS_l2 m k i r) (c := c1) (M := M_bool) (w := W_bool) (by
    intro x k hx hk hs
    simp only [c1] at hs
    refine ⟨V.bool (decide (k.tmod 3 = 0)), rfl, rfl, fun m pre rest hlen => ?_⟩
    have hi : pre.length < (pre ++ x :: rest).length := by simp
    simp only [laws_markBoolS_l2, lt_mid, idxOk_mid, Int.toNat_natCast, Nat.zero_add, set_mid, cond_true, wr_succ hi hlen]
    rw [wr64' (by omega) (by omega)]
    rfl)
    (by intro m k pre; simp only [laws_markBoolS_l2, lt_self, cond_false]) a (a.length + 1) k [] (by omega) (by simpa using hl) ha.2 hk hs
  simp only [List.nil_append, List.length_nil, Int.natCast_zero] at e4
  rw [e4]
  exact ⟨b, rfl, ⟨by omega, e3⟩, e2⟩
theorem laws_markIntS_ok (a : List V) (k : Int) (ha : LW W_int a) (hk : 0 ≤ k) (hs : k + ((sumL c1 a : Nat) : Int) ≤ 9223372036854775807) : ∃ b, laws_markIntS a k = some (k + ((sumL c1 a : Nat) : Int), b) ∧ MS c1 M_int b k ∧ sumL c1 b = sumL c1 a := by
  have hl := ha.1
  unfold laws_markIntS
  rw [fuel_eq]
  obtain ⟨b, e1, e2, e3, e4⟩ := mark_loop (F := fun m k i r => laws_markIntS_l2 m k i r) (c := c1) (M := M_int) (w := W_int) (by
    intro x k hx hk hs
    simp only [c1] at hs
    refine ⟨V.int .i64 k, rfl, rfl, fun m pre rest hlen => ?_⟩
    have hi : pre.length < (pre ++ x :: rest).length := by simp
    simp only [laws_markIntS_l2, lt_mid, idxOk_mid, Int.toNat_natCast, Nat.zero_add, set_mid, cond_true, wr_succ hi hlen]
    rw [wr64' (by omega) (by omega)]
    rfl)
    (by intro m k pre; simp only [laws_markIntS_l2, lt_self, cond_false]) a (a.length + 1) k [] (by omega) (by simpa using hl) ha.2 hk hs
  simp only [List.nil_append, List.length_nil, Int.natCast_zero] at e4
  rw [e4]
  exact ⟨b, rfl, ⟨by omega, e3⟩, e2⟩
theorem laws_markNode_ok (x : V) (k : Int) (hx : W_Node x) (hk : 0 ≤ k) (hs : k + ((ct_Node x : Nat) : Int) ≤ 9223372036854775807) : ∃ b0 b1 b2 b3, laws_markNode x k = some (k + ((ct_Node x : Nat) : Int), b0, b1, b2, b3) ∧ MS c_Item M_Item b0 (k) ∧ sumL c_Item b0 = sumL c_Item (gl x 3) ∧ MS c1 M_bool b1 (k + ((sumL c_Item (gl x 3) : Nat) : Int)) ∧ sumL c1 b1 = sumL c1 (gl x 8) ∧ MS c1 M_int b2 (k + ((sumL c_Item (gl x 3) : Nat) : Int) + ((sumL c1 (gl x 8) : Nat) : Int)) ∧ sumL c1 b2 = sumL c1 (gl x 9) ∧ MS c1 M_int b3 (k + ((sumL c_Item (gl x 3) : Nat) : Int) + ((sumL c1 (gl x 8) : Nat) : Int) + ((sumL c1 (gl x 9) : Nat) : Int)) ∧ sumL c1 b3 = sumL c1 (gl x 10) := by
  simp only [ct_Node] at hs ⊢
  unfold laws_markNode
  obtain ⟨b0, f0, g0, s0⟩ := laws_markItemS_ok (gl x 3) (k) hx.2.2.2.1 (by omega) (by omega)
  simp only [f0, Option.bind_some]
  obtain ⟨b1, f1, g1, s1⟩ := laws_markBoolS_ok (gl x 8) (k + ((sumL c_Item (gl x 3) : Nat) : Int)) hx.2.2.2.2.2.2.2.2.1 (by omega) (by omega)
  simp only [f1, Option.bind_some]
  obtain ⟨b2, f2, g2, s2⟩ := laws_markIntS_ok (gl x 9) (k + ((sumL c_Item (gl x 3) : Nat) : Int) + ((sumL c1 (gl x 8) : Nat) : Int)) hx.2.2.2.2.2.2.2.2.2.1 (by omega) (by omega)
  simp only [f2, Option.bind_some]
  obtain ⟨b3, f3, g3, s3⟩ := laws_markIntS_ok (gl x 10) (k + ((sumL c_Item (gl x 3) : Nat) : Int) + ((sumL c1 (gl x 8) : Nat) : Int) + ((sumL c1 (gl x 9) : Nat) : Int)) hx.2.2.2.2.2.2.2.2.2.2 (by omega) (by omega)
  simp only [f3, Option.bind_some]
  refine ⟨b0, b1, b2, b3, ?_, ?_, s0, ?_, s1, ?_, s2, ?_, s3⟩
  · first | rfl | (congr 2; omega)
  · first | exact g0 | (refine cast (congrArg _ ?_) g0; omega)
  · first | exact g1 | (refine cast (congrArg _ ?_) g1; omega)
  · first | exact g2 | (refine cast (congrArg _ ?_) g2; omega)
  · first | exact g3 | (refine cast (congrArg _ ?_) g3; omega)
theorem laws_heldByteS_ok (a : List V) (k : Int) (hM : MS c1 M_byte a k) (hk : 0 ≤ k) (hs : k + ((sumL c1 a : Nat) : Int) ≤ 9223372036854775807) : laws_heldByteS a k = some (k + ((sumL c1 a : Nat) : Int)) := by
  have hl := hM.1
  unfold laws_heldByteS
  rw [fuel_eq]
  rw [held_loop (F := fun m k i => laws_heldByteS_l2 m a k i) (c := c1) (M := M_byte) (l := a) (out := fun k => some (1, k, 0)) ?_ ?_ hk hs hM]
  · rfl
  · intro m k i hi hk hs hM
    simp only [c1] at hs ⊢
    simp only [M_byte] at hM
    simp only [laws_heldByteS_l2, lt_nat hi, idxOk_nat hi, Int.toNat_natCast, hM, decide_true, beq_self_eq_true, Bool.not_true, cond_true, cond_false, wr_succ hi hl]
    rw [wr64' (by omega) (by omega)]
    rfl
  · intro m k
    simp only [laws_heldByteS_l2, lt_self, cond_false]
theorem laws_heldItemS_ok (a : List V) (k : Int) (hM : MS c_Item M_Item a k) (hk : 0 ≤ k) (hs : k + ((sumL c_Item a : Nat) : Int) ≤ 9223372036854775807) : laws_heldItemS a k = some (k + ((sumL c_Item a : Nat) : Int)) := by
  have hl := hM.1
  unfold laws_heldItemS
  rw [fuel_eq]
  rw [held_loop (F := fun m k i => laws_heldItemS_l2 m a k i) (c := c_Item) (M := M_Item) (l := a) (out := fun k => some (1, k, 0)) ?_ ?_ hk hs hM]
  · rfl
  · intro m k i hi hk hs hM
    simp only [c_Item] at hs
    simp only [M_Item] at hM
    obtain ⟨q0, q1, q2, q3, q4, q5, q6⟩ := hM
    have e4 := laws_heldByteS_ok (gl (rd a i) 4) (k + 1 + 1 + 1 + 1) q4 (by omega) (by omega)
    have n4 : decide (k + 1 + 1 + 1 + 1 + ((sumL c1 (gl (rd a i) 4) : Nat) : Int) < 0) = false := by simp; omega
    have e5 := laws_heldByteS_ok (gl (rd a i) 5) (k + 1 + 1 + 1 + 1 + ((sumL c1 (gl (rd a i) 4) : Nat) : Int)) q5 (by omega) (by omega)
    have n5 : decide (k + 1 + 1 + 1 + 1 + ((sumL c1 (gl (rd a i) 4) : Nat) : Int) + ((sumL c1 (gl (rd a i) 5) : Nat) : Int) < 0) = false := by simp; omega
    simp (disch := omega) only [laws_heldItemS_l2, lt_nat hi, idxOk_nat hi, Int.toNat_natCast, wr64', q0, q1, q2, q3, e4, n4, e5, n5, q6, decide_true, beq_self_eq_true, Bool.not_true, cond_true, cond_false, Option.bind_some, wr_succ hi hl]
    congr 1
    simp only [c_Item]; omega
  · intro m k
    simp only [laws_heldItemS_l2, lt_self, cond_false]
theorem laws_heldBoolS_ok (a : List V) (k : Int) (hM : MS c1 M_bool a k) (hk : 0 ≤ k) (hs : k + ((sumL c1 a : Nat) : Int) ≤ 9223372036854775807) : laws_heldBoolS a k = some (k + ((sumL c1 a : Nat) : Int)) := by
  have hl := hM.1
  unfold laws_heldBoolS
  rw [fuel_eq]
  rw [held_loop (F := fun m k i => laws_heldBoolS_l2 m a k i) (c := c1) (M := M_bool) (l := a) (out := fun k => some (1, k, 0)) ?_ ?_ hk hs hM]
  · rfl
  · intro m k i hi hk hs hM
    simp only [c1] at hs ⊢
    simp only [M_bool] at hM
    simp only [laws_heldBoolS_l2, lt_nat hi, idxOk_nat hi, Int.toNat_natCast, hM, decide_true, beq_self_eq_true, Bool.not_true, cond_true, cond_false, wr_succ hi hl]
    rw [wr64' (by omega) (by omega)]
    rfl
  · intro m k
    simp only [laws_heldBoolS_l2, lt_self, cond_false]
theorem laws_heldIntS_ok (a : List V) (k : Int) (hM : MS c1 M_int a k) (hk : 0 ≤ k) (hs : k + ((sumL c1 a : Nat) : Int) ≤ 9223372036854775807) : laws_heldIntS a k = some (k + ((sumL c1 a : Nat) : Int)) := by
  have hl := hM.1
  unfold laws_heldIntS
  rw [fuel_eq]
  rw [held_loop (F := fun m k i => laws_heldIntS_l2 m a k i) (c := c1) (M := M_int) (l := a) (out := fun k => some (1, k, 0)) ?_ ?_ hk hs hM]
  · rfl
  · intro m k i hi hk hs hM
    simp only [c1] at hs ⊢
    simp only [M_int] at hM
    simp only [laws_heldIntS_l2, lt_nat hi, idxOk_nat hi, Int.toNat_natCast, hM, decide_true, beq_self_eq_true, Bool.not_true, cond_true, cond_false, wr_succ hi hl]
    rw [wr64' (by omega) (by omega)]
    rfl
  · intro m k
    simp only [laws_heldIntS_l2, lt_self, cond_false]
theorem laws_heldNode_ok (x : V) (k : Int) (h3 : MS c_Item M_Item (gl x 3) (k)) (h8 : MS c1 M_bool (gl x 8) (k + ((sumL c_Item (gl x 3) : Nat) : Int))) (h9 : MS c1 M_int (gl x 9) (k + ((sumL c_Item (gl x 3) : Nat) : Int) + ((sumL c1 (gl x 8) : Nat) : Int))) (h10 : MS c1 M_int (gl x 10) (k + ((sumL c_Item (gl x 3) : Nat) : Int) + ((sumL c1 (gl x 8) : Nat) : Int) + ((sumL c1 (gl x 9) : Nat) : Int))) (hk : 0 ≤ k) (hs : k + ((ct_Node x : Nat) : Int) ≤ 9223372036854775807) : laws_heldNode x k = some (k + ((ct_Node x : Nat) : Int)) := by
  simp only [ct_Node] at hs ⊢
  unfold laws_heldNode
  rw [laws_heldItemS_ok (gl x 3) (k) h3 (by omega) (by omega)]
  simp only [Option.bind_some, show decide (k + ((sumL c_Item (gl x 3) : Nat) : Int) < 0) = false from by simp; omega, cond_false]
  rw [laws_heldBoolS_ok (gl x 8) (k + ((sumL c_Item (gl x 3) : Nat) : Int)) h8 (by omega) (by omega)]
  simp only [Option.bind_some, show decide (k + ((sumL c_Item (gl x 3) : Nat) : Int) + ((sumL c1 (gl x 8) : Nat) : Int) < 0) = false from by simp; omega, cond_false]
  rw [laws_heldIntS_ok (gl x 9) (k + ((sumL c_Item (gl x 3) : Nat) : Int) + ((sumL c1 (gl x 8) : Nat) : Int)) h9 (by omega) (by omega)]
  simp only [Option.bind_some, show decide (k + ((sumL c_Item (gl x 3) : Nat) : Int) + ((sumL c1 (gl x 8) : Nat) : Int) + ((sumL c1 (gl x 9) : Nat) : Int) < 0) = false from by simp; omega, cond_false]
  rw [laws_heldIntS_ok (gl x 10) (k + ((sumL c_Item (gl x 3) : Nat) : Int) + ((sumL c1 (gl x 8) : Nat) : Int) + ((sumL c1 (gl x 9) : Nat) : Int)) h10 (by omega) (by omega)]
  simp only [Option.bind_some, show decide (k + ((sumL c_Item (gl x 3) : Nat) : Int) + ((sumL c1 (gl x 8) : Nat) : Int) + ((sumL c1 (gl x 9) : Nat) : Int) + ((sumL c1 (gl x 10) : Nat) : Int) < 0) = false from by simp; omega, cond_false]
  first | rfl | (congr 1; omega)
end Go.Eng.R
open Go Go.Eng
namespace Go.Eng.R
def chB (x : V) : Bool := !decide (gi x 0 < 97) && !decide (122 < gi x 0) || decide (gi x 0 = 47)
theorem all_take_succ {p : V → Bool} {l : List V} {i : Nat} (h : i < l.length) : (l.take (i + 1)).all p = ((l.take i).all p && p (rd l i)) := by
  rw [List.take_add_one, List.all_append]
  have : l[i]? = some (rd l i) := by simp [rd, List.getD, h]
  rw [this]; simp
theorem all_rd_false {p : V → Bool} {l : List V} {i : Nat} (h : i < l.length) (hp : p (rd l i) = false) : l.all p = false := by
  rw [List.all_eq_false]
  refine ⟨rd l i, ?_, by simp [hp]⟩
  have : rd l i = l[i] := by simp [rd, List.getD, h]
  rw [this]; exact List.getElem_mem h
theorem all_loop {ρ : Type} {F : Nat → Int → ρ} {l : List V} {p : V → Bool} {yes no : ρ}
    (h1 : ∀ m (i : Nat), i < l.length → F (m + 1) (i : Int) = bif p (rd l i) then F m ((i + 1 : Nat) : Int) else no) (h0 : ∀ m, F (m + 1) (l.length : Int) = yes) :
    F (l.length + 1) 0 = bif l.all p then yes else no := by
  refine loop_run0 (F := fun m (_ : Unit) i => F m i) (n := l.length) (fun i _ => (l.take i).all p = true) (fun o => o = bif l.all p then yes else no) ?_ ?_ (s := ()) (by simp)
  · intro m i s hi hI
    rw [h1 m i hi]
    cases hp : p (rd l i) with
    | true => exact .inl ⟨(), rfl, by rw [all_take_succ hi, hI, hp]; rfl⟩
    | false => exact .inr (by rw [all_rd_false hi hp]; rfl)
  · intro m s hI
    rw [List.take_length] at hI
    rw [hI]; exact h0 m
def keyB (b : List V) : Bool := decide (1 ≤ b.length) && (decide (b.length ≤ 20) && b.all chB)
theorem spec_l2key_eq {b : List V} (hb : LW W_byte b) : spec_l2key b = some (keyB b) := by
  have hl := hb.1
  unfold spec_l2key keyB
  by_cases h1 : 1 ≤ b.length
  · by_cases h2 : b.length ≤ 20
    · rw [show decide (((b.length : Nat) : Int) < 1) = false from by simp; omega, show decide ((20 : Int) < ((b.length : Nat) : Int)) = false from by simp; omega, cond_false, cond_false, fuel_eq,
        all_loop (F := fun m i => spec_l2key_l4 m b i) (l := b) (p := chB) (yes := some (1, false)) (no := some (0, false)) ?_ ?_]
      · simp only [h1, h2, decide_true, Bool.true_and]
        cases b.all chB <;> rfl
      · intro m i hi
        simp only [spec_l2key_l4, lt_nat hi, idxOk_nat hi, Int.toNat_natCast, cond_true, wr_succ hi hl, chB]
        cases decide (gi (rd b i) 0 < 97) <;> cases decide (122 < gi (rd b i) 0) <;> cases decide (gi (rd b i) 0 = 47) <;> rfl
      · intro m; simp only [spec_l2key_l4, lt_self, cond_false]
    · rw [show decide (((b.length : Nat) : Int) < 1) = false from by simp; omega, show decide ((20 : Int) < ((b.length : Nat) : Int)) = true from by simp; omega]
      simp [h2]
  · rw [show decide (((b.length : Nat) : Int) < 1) = true from by simp; omega]
    simp [h1]
theorem within_eq (n lo hi : Int) : impl_within n lo hi = decide (lo ≤ n ∧ n ≤ hi) := by
  unfold impl_within
  by_cases h : lo ≤ n <;> simp [h]
theorem impl_KeyOk_eq {b : List V} (hb : LW W_byte b) : impl_KeyOk b = some (keyB b) := by
  have hl := hb.1
  unfold impl_KeyOk keyB
  rw [fuel_eq, all_loop (F := fun m i => impl_KeyOk_l2 m b b ((b.length : Nat) : Int) i) (l := b) (p := chB) (yes := some (1, b, false)) (no := some (0, b, false)) ?_ ?_]
  · cases b.all chB with
    | true => simp only [cond_true, Option.bind_some, within_eq]; simp [Nat.beq]; by_cases h1 : 1 ≤ b.length <;> by_cases h2 : b.length ≤ 20 <;> simp [h1, h2] <;> omega
    | false => simp [Nat.beq]
  · intro m i hi
    simp only [impl_KeyOk_l2, lt_nat hi, idxOk_nat hi, Int.toNat_natCast, cond_true, wr_succ hi hl, chB]
    cases decide (gi (rd b i) 0 < 97) <;> cases decide (122 < gi (rd b i) 0) <;> cases decide (gi (rd b i) 0 = 47) <;> rfl
  · intro m; simp only [impl_KeyOk_l2, lt_self, cond_false]
def opB (k : Int) (key : Bool) (nk nv : Nat) (n : Int) : Bool :=
  decide (nv ≤ 20) && (decide (0 ≤ n ∧ n ≤ 1000000) &&
    (bif decide (k = 1 ∨ k = 2 ∨ k = 3 ∨ k = 6 ∨ k = 7) then key else decide (nk = 0)) &&
    ((bif decide (k = 1 ∨ k = 2 ∨ k = 6) then true else decide (nv = 0)) &&
    ((bif decide (k = 0 ∨ k = 1 ∨ k = 3) then decide (n = 0) else bif decide (k = 4) then decide (n ≤ 1) else bif decide (k = 2) then true else decide (1 ≤ n)) && decide (0 ≤ k ∧ k ≤ 7))))
theorem impl_OpOk_eq {o : V} (ho : W_Op o) : impl_OpOk o = some (opB (gi o 0) (keyB (gl o 1)) (gl o 1).length (gl o 2).length (gi o 3)) := by
  unfold impl_OpOk
  rw [impl_KeyOk_eq ho.2.1]
  simp only [within_eq, impl_isValue, Option.bind_some]
  generalize gi o 0 = k
  generalize keyB (gl o 1) = key
  generalize (gl o 1).length = nk
  generalize (gl o 2).length = nv
  generalize gi o 3 = n
  by_cases hk : 0 ≤ k ∧ k ≤ 7
  · obtain rfl | rfl | rfl | rfl | rfl | rfl | rfl | rfl : k = 0 ∨ k = 1 ∨ k = 2 ∨ k = 3 ∨ k = 4 ∨ k = 5 ∨ k = 6 ∨ k = 7 := by omega
    all_goals (cases key <;> simp [opB, Bool.cond_eq_ite] <;> (repeat' split) <;> simp_all <;> first | omega | (rw [Bool.eq_iff_iff]; simp; omega))
  · have hh : decide (0 ≤ k ∧ k ≤ 7) = false := by simpa using hk
    have h0 : decide (k = 0) = false := by simp; omega
    have h1 : decide (k = 1) = false := by simp; omega
    have h2 : decide (k = 2) = false := by simp; omega
    have h3 : decide (k = 3) = false := by simp; omega
    have h4 : decide (k = 4) = false := by simp; omega
    have h5 : decide (k = 5) = false := by simp; omega
    have h6 : decide (k = 6) = false := by simp; omega
    have h7 : decide (k = 7) = false := by simp; omega
    simp only [opB, hh, h0, h1, h2, h3, h4, h5, h6, h7, cond_false, Bool.and_false]
theorem spec_OpOk_eq {o : V} (ho : W_Op o) : spec_OpOk o = some (opB (gi o 0) (keyB (gl o 1)) (gl o 1).length (gl o 2).length (gi o 3)) := by
  unfold spec_OpOk
  rw [spec_l2key_eq ho.2.1]
  simp only [spec_l2val, spec_l2index, Option.bind_some]
  generalize gi o 0 = k
  generalize keyB (gl o 1) = key
  generalize (gl o 1).length = nk
  generalize (gl o 2).length = nv
  generalize gi o 3 = n
  by_cases hk : 0 ≤ k ∧ k ≤ 7
  · obtain rfl | rfl | rfl | rfl | rfl | rfl | rfl | rfl : k = 0 ∨ k = 1 ∨ k = 2 ∨ k = 3 ∨ k = 4 ∨ k = 5 ∨ k = 6 ∨ k = 7 := by omega
    all_goals (cases key <;> simp [opB, Bool.cond_eq_ite] <;> (repeat' split) <;> simp_all <;> omega)
  · have hh : decide (0 ≤ k ∧ k ≤ 7) = false := by simpa using hk
    simp only [opB, hh, Bool.and_false]
    by_cases h : k < 0
    · simp [h]
    · rw [show decide (k < 0) = false from by simpa using h, show decide (7 < k) = true from by simp; omega]; rfl
def cmdB (c : V) : Bool :=
  bif decide (gi c 0 = -1) then decide (gi c 1 = 0) && (decide (gi c 2 = 0) && opB (gi c 2) (keyB (gl c 3)) (gl c 3).length (gl c 4).length (gi c 5))
  else decide (0 ≤ gi c 0 ∧ gi c 0 ≤ 3) && (decide (1 ≤ gi c 1 ∧ gi c 1 ≤ 1000000) && opB (gi c 2) (keyB (gl c 3)) (gl c 3).length (gl c 4).length (gi c 5))
theorem spec_CmdOk_eq {c : V} (hc : W_Cmd c) : spec_CmdOk c = some (cmdB c) := by
  unfold spec_CmdOk
  rw [spec_OpOk_eq (o := V.agg [(V.int .i64 (gi c 2)), (V.inl t_byte (gl c 3)), (V.inl t_byte (gl c 4)), (V.int .i64 (gi c 5))]) hc.2.2]
  simp only [Option.bind_some, gi_c0, gi_cs, gl_c0, gl_cs, cmdB]
  generalize opB _ _ _ _ _ = z
  by_cases h1 : gi c 0 = -1
  · simp only [h1, decide_true, cond_true]
    by_cases h2 : gi c 1 = 0 <;> by_cases h3 : gi c 2 = 0 <;> simp [h2, h3]
  · simp only [h1, decide_false, cond_false]
    by_cases h2 : 0 ≤ gi c 0 <;> by_cases h3 : gi c 0 < 4 <;> by_cases h4 : 1 ≤ gi c 1 <;> by_cases h5 : gi c 1 ≤ 1000000 <;> simp [h2, h3, h4, h5] <;> omega
theorem eqList_nil (l : List V) : eqList (l.map normB) [] = decide (l.length = 0) := by cases l <;> simp [eqList]
theorem impl_same_noOp (c : V) : impl_Cmd_same (n_laws_Cmd c) (n_laws_Cmd impl_noOp) = (decide (gi c 0 = -1) && (decide (gi c 1 = 0) && (decide (gi c 2 = 0) && (decide ((gl c 3).length = 0) && (decide ((gl c 4).length = 0) && decide (gi c 5 = 0)))))) := by
  simp only [impl_Cmd_same, impl_Op_same, impl_noOp, n_laws_Cmd, gi_c0, gi_cs, gl_c0, gl_cs, bytes_Equal, List.map_nil, eqList_nil]
  by_cases h0 : gi c 0 = -1 <;> by_cases h1 : gi c 1 = 0 <;> by_cases h2 : gi c 2 = 0 <;> by_cases h3 : (gl c 3).length = 0 <;> by_cases h4 : (gl c 4).length = 0 <;> simp [h0, h1, h2, h3, h4] <;> rfl
theorem impl_CmdOk_eq {c : V} (hc : W_Cmd c) : impl_CmdOk c = some (cmdB c) := by
  unfold impl_CmdOk
  rw [impl_OpOk_eq (o := V.agg [(V.int .i64 (gi c 2)), (V.inl t_byte (gl c 3)), (V.inl t_byte (gl c 4)), (V.int .i64 (gi c 5))]) hc.2.2, impl_same_noOp]
  simp only [Option.bind_some, gi_c0, gi_cs, gl_c0, gl_cs, cmdB, within_eq]
  by_cases h1 : gi c 0 = -1
  · simp only [h1, decide_true, cond_true, Bool.true_and]
    rw [show decide (0 ≤ (-1 : Int) ∧ (-1 : Int) ≤ 3) = false from rfl]
    by_cases h2 : gi c 1 = 0 <;> by_cases h3 : gi c 2 = 0 <;> simp only [h2, h3, decide_true, decide_false, Bool.true_and, Bool.false_and, cond_false]
    simp only [opB]
    by_cases a3 : (gl c 3).length = 0 <;> by_cases a4 : (gl c 4).length = 0 <;> by_cases a5 : gi c 5 = 0 <;> simp [a3, a4, a5]
  · simp only [h1, decide_false, cond_false, Bool.false_and]
    generalize opB _ _ _ _ _ = z
    by_cases h2 : 0 ≤ gi c 0 ∧ gi c 0 ≤ 3 <;> by_cases h3 : 1 ≤ gi c 1 ∧ gi c 1 ≤ 1000000 <;> simp [h2, h3]
def itemB (x : V) : Bool := decide (1 ≤ gi x 0 ∧ gi x 0 ≤ 100000) && cmdB (V.agg [(V.int .i64 (gi x 1)), (V.int .i64 (gi x 2)), (V.int .i64 (gi x 3)), (V.inl t_byte (gl x 4)), (V.inl t_byte (gl x 5)), (V.int .i64 (gi x 6))])
theorem spec_ItemOk_eq {x : V} (hx : W_Item x) : spec_ItemOk x = some (itemB x) := by
  unfold spec_ItemOk itemB
  rw [spec_CmdOk_eq (c := V.agg [(V.int .i64 (gi x 1)), (V.int .i64 (gi x 2)), (V.int .i64 (gi x 3)), (V.inl t_byte (gl x 4)), (V.inl t_byte (gl x 5)), (V.int .i64 (gi x 6))]) hx.2]
  by_cases h1 : 1 ≤ gi x 0 <;> by_cases h2 : gi x 0 ≤ 100000 <;> simp [h1, h2]
theorem impl_ItemOk_eq {x : V} (hx : W_Item x) : impl_ItemOk x = some (itemB x) := by
  unfold impl_ItemOk itemB impl_isTerm
  rw [impl_CmdOk_eq (c := V.agg [(V.int .i64 (gi x 1)), (V.int .i64 (gi x 2)), (V.int .i64 (gi x 3)), (V.inl t_byte (gl x 4)), (V.inl t_byte (gl x 5)), (V.int .i64 (gi x 6))]) hx.2, within_eq]
  by_cases h1 : 1 ≤ gi x 0 ∧ gi x 0 ≤ 100000 <;> simp [h1]
end Go.Eng.R
open Go Go.Eng
namespace Go.Eng.R
open Classical
theorem range_all_succ {p : Nat → Bool} {i : Nat} : (List.range (i + 1)).all p = ((List.range i).all p && p i) := by
  rw [List.range_succ, List.all_append]; simp
theorem range_all_false {p : Nat → Bool} {i n : Nat} (h : i < n) (hp : p i = false) : (List.range n).all p = false := by
  rw [List.all_eq_false]
  exact ⟨i, List.mem_range.2 h, by simp [hp]⟩
theorem all_run {σ ρ : Type} {F : Nat → σ → Int → ρ} {n : Nat} {p : Nat → Bool} {yes no : ρ} (I : Nat → σ → Prop)
    (h1 : ∀ m i s, i < n → I i s → (p i = true ∧ ∃ s', F (m + 1) s (i : Int) = F m s' ((i + 1 : Nat) : Int) ∧ I (i + 1) s') ∨ (p i = false ∧ F (m + 1) s (i : Int) = no))
    (h0 : ∀ m s, I n s → F (m + 1) s (n : Int) = yes) {s : σ} (hs : I 0 s) : F (n + 1) s 0 = bif (List.range n).all p then yes else no := by
  refine loop_run0 (F := F) (n := n) (fun i s => (List.range i).all p = true ∧ I i s) (fun o => o = bif (List.range n).all p then yes else no) ?_ ?_ (s := s) ⟨by simp, hs⟩
  · intro m i s hi hI
    rcases h1 m i s hi hI.2 with ⟨hp, s', e, hI'⟩ | ⟨hp, e⟩
    · exact .inl ⟨s', e, by rw [range_all_succ, hI.1, hp]; rfl, hI'⟩
    · exact .inr (by rw [e, range_all_false hi hp]; rfl)
  · intro m s hI
    rw [hI.1]; exact h0 m s hI.2
theorem all_range {ρ : Type} {F : Nat → Int → ρ} {n : Nat} {p : Nat → Bool} {yes no : ρ}
    (h1 : ∀ m i, i < n → F (m + 1) (i : Int) = bif p i then F m ((i + 1 : Nat) : Int) else no) (h0 : ∀ m, F (m + 1) (n : Int) = yes) : F (n + 1) 0 = bif (List.range n).all p then yes else no := by
  refine all_run (F := fun m (_ : Unit) i => F m i) (fun _ _ => True) (fun m i s hi _ => ?_) (fun m _ _ => h0 m) (s := ()) trivial
  have := h1 m i hi
  cases hp : p i with
  | true => exact .inl ⟨rfl, (), by rw [this, hp]; rfl, trivial⟩
  | false => exact .inr ⟨rfl, by rw [this, hp]; rfl⟩
theorem chk {c b : Bool} {rest : Option Bool} (h1 : c = true → b = false) (h2 : c = false → rest = some b) : (bif c then some false else rest) = some b := by
  cases c with
  | true => rw [h1 rfl]; rfl
  | false => exact h2 rfl
def logB (n : V) (i : Nat) : Bool := itemB (rd (gl n 3) i) && (decide (gi (rd (gl n 3) i) 0 ≤ gi n 1) && (decide (i = 0) || decide (gi (rd (gl n 3) (i - 1)) 0 ≤ gi (rd (gl n 3) i) 0)))
def cellB (n : V) (i : Nat) : Bool :=
  bif decide (gi n 5 = 2) then decide (1 ≤ gi (rd (gl n 9) i) 0 ∧ gi (rd (gl n 9) i) 0 ≤ ((gl n 3).length : Int) + 1) && decide (0 ≤ gi (rd (gl n 10) i) 0 ∧ gi (rd (gl n 10) i) 0 ≤ ((gl n 3).length : Int))
  else decide (gi (rd (gl n 9) i) 0 = 0) && decide (gi (rd (gl n 10) i) 0 = 0)
def voteB (n : V) (i : Nat) : Bool := !(decide (gi n 5 = 0)) || !(gb (rd (gl n 8) i) 0)
structure NodeP (n : V) (k : Int) : Prop where
  k1 : 1 ≤ k
  k5 : k ≤ 5
  id0 : 0 ≤ gi n 0
  idk : gi n 0 < k
  term0 : 0 ≤ gi n 1
  term1 : gi n 1 ≤ 100000
  vote0 : -1 ≤ gi n 2
  votek : gi n 2 < k
  lead0 : -1 ≤ gi n 6
  leadk : gi n 6 < k
  len : ((gl n 3).length : Int) ≤ 400
  com0 : 0 ≤ gi n 4
  com1 : gi n 4 ≤ ((gl n 3).length : Int)
  role0 : 0 ≤ gi n 5
  role2 : gi n 5 ≤ 2
  wait0 : 0 ≤ gi n 7
  wait1 : gi n 7 ≤ 20
  lvotes : ((gl n 8).length : Int) = k
  lnext : ((gl n 9).length : Int) = k
  lmatch : ((gl n 10).length : Int) = k
  items : (List.range (gl n 3).length).all (logB n) = true
  cells : (List.range (gl n 9).length).all (cellB n) = true
  votes : (List.range (gl n 8).length).all (voteB n) = true
  stands : gi n 5 ≠ 0 → 1 ≤ gi n 1 ∧ gi n 2 = gi n 0
  leads : gi n 5 = 2 → gi n 6 = gi n 0
noncomputable def nodeB (n : V) (k : Int) : Bool := decide (NodeP n k)
theorem nodeB_false {n : V} {k : Int} (h : NodeP n k → False) : nodeB n k = false := decide_eq_false h
theorem spec_log_run {n : V} (hn : W_Node n) (servers : Int) : spec_NodeOk_l4 ((gl n 3).length + 1) servers 0 (n_impl_Node n) =
    bif (List.range (gl n 3).length).all (logB n) then some (1, servers, false, n_impl_Node n) else some (0, servers, false, n_impl_Node n) := by
  have hl := hn.2.2.2.1.1
  refine all_range (F := fun m i => spec_NodeOk_l4 m servers i (n_impl_Node n)) (fun m i hi => ?_) (fun m => ?_)
  · have e : spec_ItemOk (n_impl_Item (rd (gl n 3) i)) = some (itemB (rd (gl n 3) i)) := spec_ItemOk_eq (x := n_impl_Item (rd (gl n 3) i)) (hn.2.2.2.1.rd hi)
    show spec_NodeOk_l4 (m + 1) servers i (n_impl_Node n) = _
    rw [spec_NodeOk_l4]
    simp only [show gl (n_impl_Node n) 3 = gl n 3 from rfl, show gi (n_impl_Node n) 1 = gi n 1 from rfl, lt_nat hi, idxOk_nat hi, Int.toNat_natCast, cond_true, e, Option.bind_some, logB, wr_succ hi hl]
    cases hit : itemB (rd (gl n 3) i) with
    | false => rfl
    | true =>
      simp only [Bool.not_true, cond_false, Bool.true_and]
      by_cases h1 : gi (rd (gl n 3) i) 0 ≤ gi n 1
      · rw [show decide (gi n 1 < gi (rd (gl n 3) i) 0) = false from by simp; omega, cond_false, decide_eq_true h1, Bool.true_and]
        cases i with
        | zero => simp; rfl
        | succ j =>
          have hj : j < (gl n 3).length := by omega
          have ew : IntKind.i64.wrap (((j + 1 : Nat) : Int) - 1) = ((j : Nat) : Int) := by rw [wr64' (by omega) (by omega)]; omega
          rw [show decide ((0 : Int) < ((j + 1 : Nat) : Int)) = true from decide_eq_true (by omega), cond_true, ew, idxOk_nat hj, cond_true, Int.toNat_natCast, show decide (j + 1 = 0) = false from by simp, Bool.false_or, Nat.add_sub_cancel]
          by_cases h2 : gi (rd (gl n 3) j) 0 ≤ gi (rd (gl n 3) (j + 1)) 0
          · rw [show decide (gi (rd (gl n 3) (j + 1)) 0 < gi (rd (gl n 3) j) 0) = false from by simp; omega, decide_eq_true h2]; rfl
          · rw [show decide (gi (rd (gl n 3) (j + 1)) 0 < gi (rd (gl n 3) j) 0) = true from by simp; omega, decide_eq_false h2]; rfl
      · rw [show decide (gi n 1 < gi (rd (gl n 3) i) 0) = true from by simp; omega, decide_eq_false h1]; rfl
  · show spec_NodeOk_l4 (m + 1) servers _ (n_impl_Node n) = _
    rw [spec_NodeOk_l4]
    simp only [show gl (n_impl_Node n) 3 = gl n 3 from rfl, lt_self, cond_false]
    rfl
theorem impl_log_run {n : V} (hn : W_Node n) (servers : Int) : impl_NodeOk_l5 ((gl n 3).length + 1) servers 1 (gl n 3) ((gl n 3).length : Int) 0 (n_impl_Node n) =
    bif (List.range (gl n 3).length).all (logB n) then some (1, servers, false, n_impl_Node n) else some (0, servers, false, n_impl_Node n) := by
  have hl := hn.2.2.2.1.1
  refine all_run (F := fun m t i => impl_NodeOk_l5 m servers t (gl n 3) ((gl n 3).length : Int) i (n_impl_Node n)) (fun i t => t = if i = 0 then 1 else gi (rd (gl n 3) (i - 1)) 0) (fun m i t hi ht => ?_) (fun m t ht => ?_) rfl
  · have e : impl_ItemOk (n_impl_Item (rd (gl n 3) i)) = some (itemB (rd (gl n 3) i)) := impl_ItemOk_eq (x := n_impl_Item (rd (gl n 3) i)) (hn.2.2.2.1.rd hi)
    have e0 : impl_NodeOk_l5 (m + 1) servers t (gl n 3) ((gl n 3).length : Int) i (n_impl_Node n) = bif (!(itemB (rd (gl n 3) i))) then some (0, servers, false, n_impl_Node n) else bif (!(decide (t ≤ gi (rd (gl n 3) i) 0 ∧ gi (rd (gl n 3) i) 0 ≤ gi n 1))) then some (0, servers, false, n_impl_Node n)
        else impl_NodeOk_l5 m servers (gi (rd (gl n 3) i) 0) (gl n 3) ((gl n 3).length : Int) ((i + 1 : Nat) : Int) (n_impl_Node n) := by
      rw [impl_NodeOk_l5]
      simp only [lt_nat hi, idxOk_nat hi, Int.toNat_natCast, cond_true, e, Option.bind_some, wr_succ hi hl, within_eq]
      rfl
    have hterm : itemB (rd (gl n 3) i) = true → 1 ≤ gi (rd (gl n 3) i) 0 := fun h => by
      simp only [itemB, Bool.and_eq_true, decide_eq_true_eq] at h; exact h.1.1
    cases hp : logB n i with
    | true =>
      refine .inl ⟨rfl, _, ?_, by simp; rfl⟩
      simp only [logB, Bool.and_eq_true, decide_eq_true_eq, Bool.or_eq_true] at hp
      obtain ⟨p1, p2, p3⟩ := hp
      rw [e0, p1]
      have : t ≤ gi (rd (gl n 3) i) 0 ∧ gi (rd (gl n 3) i) 0 ≤ gi n 1 := by
        refine ⟨?_, p2⟩
        subst ht
        have := hterm p1
        split
        · exact this
        · rename_i h; rcases p3 with h' | h'
          · exact absurd h' h
          · exact h'
      rw [decide_eq_true this]; rfl
    | false =>
      refine .inr ⟨rfl, ?_⟩
      rw [e0]
      cases p1 : itemB (rd (gl n 3) i) with
      | false => rfl
      | true =>
        have : ¬ (t ≤ gi (rd (gl n 3) i) 0 ∧ gi (rd (gl n 3) i) 0 ≤ gi n 1) := by
          rintro ⟨h1, h2⟩
          rw [logB, p1, decide_eq_true h2, Bool.true_and, Bool.true_and] at hp
          subst ht
          by_cases h0 : i = 0
          · simp [h0] at hp
          · rw [if_neg h0] at h1
            simp [h1] at hp
        rw [decide_eq_false this]; rfl
  · show impl_NodeOk_l5 (m + 1) servers t _ _ _ (n_impl_Node n) = _
    rw [impl_NodeOk_l5]
    simp only [lt_self, cond_false]
    rfl
theorem lt_not (a b : Int) : decide (a < b) = !decide (b ≤ a) := by by_cases h : a < b <;> simp [h] <;> omega
theorem spec_cell_run {n : V} (hn : W_Node n) {N : Nat} (h8 : (gl n 8).length = N) (h9 : (gl n 9).length = N) (h10 : (gl n 10).length = N) (hlog : (gl n 3).length ≤ 400) : spec_NodeOk_l11 (N + 1) (N : Int) 0 (n_impl_Node n) =
    bif (List.range N).all (fun i => cellB n i && voteB n i) then some (1, false, n_impl_Node n) else some (0, false, n_impl_Node n) := by
  have hl := hn.2.2.2.2.2.2.2.2.1.1
  rw [h8] at hl
  refine all_range (F := fun m i => spec_NodeOk_l11 m (N : Int) i (n_impl_Node n)) (fun m i hi => ?_) (fun m => ?_)
  · have i8 : idxOk (i : Int) (gl n 8).length = true := idxOk_nat (by omega)
    have i9 : idxOk (i : Int) (gl n 9).length = true := idxOk_nat (by omega)
    have i10 : idxOk (i : Int) (gl n 10).length = true := idxOk_nat (by omega)
    show spec_NodeOk_l11 (m + 1) (N : Int) i (n_impl_Node n) = _
    rw [spec_NodeOk_l11]
    simp only [show ∀ j, gl (n_impl_Node n) 3 = gl n 3 from fun _ => rfl, show gl (n_impl_Node n) 8 = gl n 8 from rfl, show gl (n_impl_Node n) 9 = gl n 9 from rfl, show gl (n_impl_Node n) 10 = gl n 10 from rfl, show gi (n_impl_Node n) 5 = gi n 5 from rfl, lt_nat hi, i8, i9, i10, Int.toNat_natCast, cond_true, wr_succ hi hl, show n_impl_Node (n_impl_Node n) = n_impl_Node n from rfl, show gl (n_impl_Node n) 3 = gl n 3 from rfl]
    rw [wr64' (n := ((gl n 3).length : Int) + 1) (by omega) (by omega)]
    simp only [cellB, voteB]
    generalize spec_NodeOk_l11 m _ _ _ = R
    generalize gi (rd (gl n 9) i) 0 = a
    generalize gi (rd (gl n 10) i) 0 = b
    generalize gb (rd (gl n 8) i) 0 = v
    generalize ((gl n 3).length : Int) = L
    by_cases h2 : gi n 5 = 2
    · have h0 : ¬ gi n 5 = 0 := by omega
      simp only [h2, decide_true, cond_true, Bool.not_true, cond_false, show decide ((2 : Int) = 0) = false from rfl, Bool.not_false, Bool.true_or, Bool.and_true]
      simp only [lt_not, Bool.decide_and]
      cases decide (1 ≤ a) <;> cases decide (a ≤ L + 1) <;> cases decide (0 ≤ b) <;> cases decide (b ≤ L) <;> rfl
    · simp only [h2, decide_false, cond_false, Bool.not_false, cond_true]
      by_cases a1 : a = 0 <;> by_cases a2 : b = 0 <;> by_cases a3 : gi n 5 = 0 <;> cases v <;> simp [a1, a2, a3]
  · show spec_NodeOk_l11 (m + 1) _ _ (n_impl_Node n) = _
    rw [spec_NodeOk_l11]
    simp only [lt_self, cond_false]
    rfl
theorem impl_cell_run {n : V} (hn : W_Node n) {N : Nat} (h8 : (gl n 8).length = N) (h9 : (gl n 9).length = N) (h10 : (gl n 10).length = N) (hlog : (gl n 3).length ≤ 400) : impl_NodeOk_l16 (N + 1) (N : Int) 0 (n_impl_Node n) =
    bif (List.range N).all (cellB n) then some (1, false) else some (0, false) := by
  have hl := hn.2.2.2.2.2.2.2.2.1.1
  rw [h8] at hl
  refine all_range (F := fun m i => impl_NodeOk_l16 m (N : Int) i (n_impl_Node n)) (fun m i hi => ?_) (fun m => ?_)
  · have i9 : idxOk (i : Int) (gl n 9).length = true := idxOk_nat (by omega)
    have i10 : idxOk (i : Int) (gl n 10).length = true := idxOk_nat (by omega)
    show impl_NodeOk_l16 (m + 1) (N : Int) i (n_impl_Node n) = _
    rw [impl_NodeOk_l16]
    simp only [show gl (n_impl_Node n) 9 = gl n 9 from rfl, show gl (n_impl_Node n) 10 = gl n 10 from rfl, show gi (n_impl_Node n) 5 = gi n 5 from rfl, lt_nat hi, i9, i10, Int.toNat_natCast, cond_true, wr_succ hi hl, show n_impl_Node (n_impl_Node n) = n_impl_Node n from rfl, show gl (n_impl_Node n) 3 = gl n 3 from rfl]
    rw [wr64' (n := ((gl n 3).length : Int) + 1) (by omega) (by omega)]
    simp only [cellB, within_eq]
    generalize impl_NodeOk_l16 m _ _ _ = R
    generalize gi (rd (gl n 9) i) 0 = a
    generalize gi (rd (gl n 10) i) 0 = b
    generalize ((gl n 3).length : Int) = L
    by_cases h2 : gi n 5 = 2
    · simp only [h2, decide_true, cond_true, Bool.not_true, cond_false]
      by_cases a1 : 1 ≤ a ∧ a ≤ L + 1 <;> by_cases a2 : 0 ≤ b ∧ b ≤ L <;> simp [a1, a2]
    · simp only [h2, decide_false, cond_false, Bool.not_false, cond_true]
      by_cases a1 : a = 0 <;> by_cases a2 : b = 0 <;> simp [a1, a2]
  · show impl_NodeOk_l16 (m + 1) _ _ (n_impl_Node n) = _
    rw [impl_NodeOk_l16]
    simp only [lt_self, cond_false]
theorem bools_W (l : List V) : True := trivial
theorem contains_eq {l : List V} (hl : l.length ≤ 9223372036854775807) : slices_Contains_bool l true = some (!(List.range l.length).all (fun i => !gb (rd l i) 0)) := by
  unfold slices_Contains_bool slices_Index_bool
  rw [fuel_eq]
  have key : (fun o : Option (Nat × Int) => ∃ p, o = some p ∧ ((p.1 = 1 ∧ (List.range l.length).all (fun i => !gb (rd l i) 0) = true) ∨ (p.1 = 0 ∧ 0 ≤ p.2 ∧ (List.range l.length).all (fun i => !gb (rd l i) 0) = false))) (slices_Index_bool_l2 (l.length + 1) l true (l.length : Int) 0) := by
    refine loop_run0 (F := fun m (_ : Unit) i => slices_Index_bool_l2 m l true (l.length : Int) i) (n := l.length) (fun i _ => (List.range i).all (fun i => !gb (rd l i) 0) = true) (fun o : Option (Nat × Int) => ∃ p, o = some p ∧ ((p.1 = 1 ∧ (List.range l.length).all (fun i => !gb (rd l i) 0) = true) ∨ (p.1 = 0 ∧ 0 ≤ p.2 ∧ (List.range l.length).all (fun i => !gb (rd l i) 0) = false))) ?_ ?_ (s := ()) (by simp)
    · intro m i s hi hI
      simp only [slices_Index_bool_l2, lt_nat hi, idxOk_nat hi, Int.toNat_natCast, cond_true, wr_succ hi hl]
      cases hv : gb (rd l i) 0 with
      | true => exact .inr ⟨(0, (i : Int)), rfl, .inr ⟨rfl, by simp, range_all_false (p := fun i => !gb (rd l i) 0) hi (by simp [hv])⟩⟩
      | false => exact .inl ⟨(), rfl, by rw [range_all_succ, hI, hv]; rfl⟩
    · intro m s hI
      exact ⟨(1, 0), by simp only [slices_Index_bool_l2, lt_self, cond_false], .inl ⟨rfl, hI⟩⟩
  obtain ⟨p, e, hp⟩ := key
  rw [e, Option.bind_some]
  rcases hp with ⟨p1, p2⟩ | ⟨p1, p2, p3⟩
  · rw [p1, p2]; rfl
  · rw [p1, p3]
    show some (decide (0 ≤ p.2)) = _
    rw [decide_eq_true p2]; rfl
end Go.Eng.R
open Go Go.Eng
namespace Go.Eng.R
open Classical
theorem range_and (p q : Nat → Bool) (n : Nat) : (List.range n).all (fun i => p i && q i) = ((List.range n).all p && (List.range n).all q) := by
  induction n with
  | zero => rfl
  | succ n ih => rw [range_all_succ, range_all_succ, range_all_succ, ih]; cases (List.range n).all p <;> cases (List.range n).all q <;> cases p n <;> cases q n <;> rfl
theorem servers_eq (k : Int) : spec_l4servers k = decide (1 ≤ k ∧ k ≤ 5) := by
  unfold spec_l4servers; by_cases h : 1 ≤ k <;> simp [h]
theorem term_eq (k : Int) : spec_l3term k = decide (0 ≤ k ∧ k ≤ 100000) := by
  unfold spec_l3term; by_cases h : 0 ≤ k <;> simp [h]
theorem who_eq (n k : Int) : spec_l4who n k = decide (-1 ≤ n ∧ n < k) := by
  unfold spec_l4who; by_cases h : -1 ≤ n <;> simp [h]
theorem not_of {p : Prop} [Decidable p] (h : (!decide p) = true) : ¬ p := by simpa using h
theorem of_not {p : Prop} [Decidable p] (h : (!decide p) = false) : p := by simpa using h
theorem yes_of {p : Prop} [Decidable p] (h : decide p = true) : p := by simpa using h
theorem no_of {p : Prop} [Decidable p] (h : decide p = false) : ¬ p := by simpa using h
theorem spec_NodeOk_eq {n : V} (hn : W_Node n) (k : Int) : spec_NodeOk (n_impl_Node n) k = some (nodeB n k) := by
  unfold spec_NodeOk
  simp only [servers_eq, term_eq, who_eq, fuel_eq, show n_impl_Node (n_impl_Node n) = n_impl_Node n from rfl]
  show (bif _ then _ else _) = _
  refine chk (fun h => nodeB_false fun p => not_of h ⟨p.k1, p.k5⟩) fun h => ?_
  obtain ⟨k1, k5⟩ := of_not h
  refine chk (fun h => nodeB_false fun p => absurd (yes_of h) (Int.not_lt.2 p.id0)) fun h => ?_
  have id0 := no_of h
  refine chk (fun h => nodeB_false fun p => absurd (yes_of h) (Int.not_le.2 p.idk)) fun h => ?_
  have idk := no_of h
  refine chk (fun h => nodeB_false fun p => not_of h ⟨p.term0, p.term1⟩) fun h => ?_
  have term := of_not h
  refine chk (fun h => nodeB_false fun p => not_of h ⟨p.vote0, p.votek⟩) fun h => ?_
  have vote := of_not h
  refine chk (fun h => nodeB_false fun p => absurd (yes_of h) (Int.not_lt.2 p.len)) fun h => ?_
  have len := no_of h
  refine chk (fun h => nodeB_false fun p => absurd (yes_of h) (Int.not_lt.2 p.com0)) fun h => ?_
  have com0 := no_of h
  refine chk (fun h => nodeB_false fun p => absurd (yes_of h) (Int.not_lt.2 p.com1)) fun h => ?_
  have com1 := no_of h
  refine chk (fun h => nodeB_false fun p => absurd (yes_of h) (Int.not_lt.2 p.role0)) fun h => ?_
  have role0 := no_of h
  refine chk (fun h => nodeB_false fun p => absurd (yes_of h) (Int.not_lt.2 p.role2)) fun h => ?_
  have role2 := no_of h
  refine chk (fun h => nodeB_false fun p => not_of h ⟨p.lead0, p.leadk⟩) fun h => ?_
  have lead := of_not h
  refine chk (fun h => nodeB_false fun p => absurd (yes_of h) (Int.not_lt.2 p.wait0)) fun h => ?_
  have wait0 := no_of h
  refine chk (fun h => nodeB_false fun p => absurd (yes_of h) (Int.not_lt.2 p.wait1)) fun h => ?_
  have wait1 := no_of h
  refine chk (fun h => nodeB_false fun p => not_of h p.lvotes) fun h => ?_
  have lvotes := of_not h
  refine chk (fun h => nodeB_false fun p => not_of h p.lnext) fun h => ?_
  have lnext := of_not h
  refine chk (fun h => nodeB_false fun p => not_of h p.lmatch) fun h => ?_
  have lmatch := of_not h
  clear h
  have l8 : ((gl n 8).length : Int) = k := lvotes
  have l9 : ((gl n 9).length : Int) = k := lnext
  have l10 : ((gl n 10).length : Int) = k := lmatch
  have hlen : (gl n 3).length ≤ 400 := by
    have : ¬ (400 : Int) < ((gl n 3).length : Int) := len
    omega
  rw [show gl (n_impl_Node n) 3 = gl n 3 from rfl, spec_log_run hn k]
  cases hit : (List.range (gl n 3).length).all (logB n) with
  | false => exact (congrArg some (nodeB_false fun p => by rw [p.items] at hit; cases hit)).symm
  | true =>
    have hcell := spec_cell_run hn (N := (gl n 8).length) rfl (by omega) (by omega) hlen
    rw [l8] at hcell
    simp only [cond_true, Option.bind_some, show Nat.beq 1 0 = false from rfl, cond_false]
    rw [show (k - 0).toNat + 1 = (gl n 8).length + 1 from by omega, show gi (n_impl_Node n) 5 = gi n 5 from rfl, show gi (n_impl_Node n) 1 = gi n 1 from rfl, show gi (n_impl_Node n) 2 = gi n 2 from rfl, show gi (n_impl_Node n) 0 = gi n 0 from rfl,
      show n_impl_Node (n_impl_Node n) = n_impl_Node n from rfl, hcell, range_and]
    have fin : ∀ (c v : Bool), (List.range (gl n 8).length).all (cellB n) = c → (List.range (gl n 8).length).all (voteB n) = v → (gi n 5 ≠ 0 → 1 ≤ gi n 1 ∧ gi n 2 = gi n 0) →
        (Option.bind (bif (c && v) then some (1, false, n_impl_Node n) else some (0, false, n_impl_Node n)) fun r29 => bif (Nat.beq r29.1 0) then some r29.2.1 else bif (!(decide ((gi r29.2.2 5) = 2))) then some true else some (decide ((gi r29.2.2 6) = (gi r29.2.2 0)))) = some (nodeB n k) := by
      intro c v hc hv hst
      cases c with
      | false => exact (congrArg some (nodeB_false fun p => by have := p.cells; rw [show (gl n 9).length = (gl n 8).length from by omega, hc] at this; cases this)).symm
      | true =>
        cases v with
        | false => exact (congrArg some (nodeB_false fun p => by have := p.votes; rw [hv] at this; cases this)).symm
        | true =>
          show (bif (!(decide (gi n 5 = 2))) then some true else some (decide (gi n 6 = gi n 0))) = _
          have mk : (gi n 5 = 2 → gi n 6 = gi n 0) → nodeB n k = true := fun hl => decide_eq_true
            { k1 := k1, k5 := k5, id0 := Int.not_lt.1 id0, idk := Int.not_le.1 idk, term0 := term.1, term1 := term.2, vote0 := vote.1, votek := vote.2, lead0 := lead.1, leadk := lead.2,
              len := by omega, com0 := Int.not_lt.1 com0, com1 := Int.not_lt.1 com1, role0 := Int.not_lt.1 role0, role2 := Int.not_lt.1 role2, wait0 := Int.not_lt.1 wait0, wait1 := Int.not_lt.1 wait1,
              lvotes := l8, lnext := l9, lmatch := l10, items := hit, cells := by rw [show (gl n 9).length = (gl n 8).length from by omega]; exact hc, votes := hv, stands := hst, leads := hl }
          by_cases h2 : gi n 5 = 2
          · by_cases h6 : gi n 6 = gi n 0
            · rw [mk fun _ => h6]; simp [h2, h6]
            · rw [nodeB_false fun p => h6 (p.leads h2)]; simp [h2, h6]
          · rw [mk fun h => absurd h h2]; simp [h2]
    by_cases h5 : gi n 5 = 0
    · simp only [h5, decide_true, Bool.not_true, cond_false]
      have := fin _ _ rfl rfl (fun h => absurd h5 h)
      exact this
    · simp only [h5, decide_false, Bool.not_false, cond_true]
      refine chk (fun h => nodeB_false fun p => absurd (yes_of h) (Int.not_lt.2 (p.stands h5).1)) fun h => ?_
      have s1 := no_of h
      refine chk (fun h => nodeB_false fun p => not_of h (p.stands h5).2) fun h => ?_
      have s2 := of_not h
      exact fin _ _ rfl rfl (fun _ => ⟨Int.not_lt.1 s1, s2⟩)
theorem server_eq (i k : Int) (hk : I64 k) : impl_isServer i k = (decide (1 ≤ k ∧ k ≤ 5) && decide (0 ≤ i ∧ i < k)) := by
  unfold impl_isServer
  simp only [within_eq]
  by_cases h : 1 ≤ k ∧ k ≤ 5
  · rw [wr64' (by omega) (by omega), decide_eq_true h]
    simp only [cond_true, Bool.true_and]
    congr 1
    apply propext
    omega
  · rw [decide_eq_false h]; rfl
theorem chk2 {c b : Bool} {rest : Option Bool} (h1 : c = true → b = false) (h2 : c = false → rest = some b) : (bif c then some false else rest) = some b := chk h1 h2
theorem wrap_pred (k : Int) (h1 : 1 ≤ k) (h5 : k ≤ 5) : IntKind.i64.wrap (k - 1) = k - 1 := wr64' (by omega) (by omega)
theorem impl_NodeOk_eq {n : V} (hn : W_Node n) (k : Int) (hk : I64 k) : impl_NodeOk (n_impl_Node n) k = some (nodeB n k) := by
  unfold impl_NodeOk
  simp only [server_eq _ k hk, within_eq, fuel_eq, show n_impl_Node (n_impl_Node n) = n_impl_Node n from rfl]
  refine chk (fun h => nodeB_false fun p => ?_) fun h => ?_
  · have a : decide (1 ≤ k ∧ k ≤ 5) = true := decide_eq_true ⟨p.k1, p.k5⟩
    have b : decide (0 ≤ gi (n_impl_Node n) 0 ∧ gi (n_impl_Node n) 0 < k) = true := decide_eq_true ⟨p.id0, p.idk⟩
    rw [a, b] at h; cases h
  simp only [Bool.not_eq_false', Bool.and_eq_true, decide_eq_true_eq] at h
  obtain ⟨⟨k1, k5⟩, id0, idk⟩ := h
  rw [wrap_pred k k1 k5]
  refine chk (fun h => nodeB_false fun p => not_of h ⟨p.term0, p.term1⟩) fun h => ?_
  have term := of_not h
  refine chk (fun h => nodeB_false fun p => not_of h ⟨p.vote0, by have := p.votek; show gi n 2 ≤ k - 1; omega⟩) fun h => ?_
  have vote := of_not h
  refine chk (fun h => nodeB_false fun p => not_of h ⟨p.lead0, by have := p.leadk; show gi n 6 ≤ k - 1; omega⟩) fun h => ?_
  have lead := of_not h
  refine chk (fun h => nodeB_false fun p => absurd (yes_of h) (Int.not_lt.2 p.len)) fun h => ?_
  have len := no_of h
  clear h
  have hlen : (gl n 3).length ≤ 400 := by
    have : ¬ (400 : Int) < ((gl n 3).length : Int) := len
    omega
  have vote : -1 ≤ gi n 2 ∧ gi n 2 ≤ k - 1 := vote
  have lead : -1 ≤ gi n 6 ∧ gi n 6 ≤ k - 1 := lead
  rw [show gl (n_impl_Node n) 3 = gl n 3 from rfl, impl_log_run hn k]
  cases hit : (List.range (gl n 3).length).all (logB n) with
  | false => exact (congrArg some (nodeB_false fun p => by rw [p.items] at hit; cases hit)).symm
  | true =>
    simp only [cond_true, Option.bind_some, show Nat.beq 1 0 = false from rfl, cond_false]
    rw [show gl (n_impl_Node n) 3 = gl n 3 from rfl, show gl (n_impl_Node n) 8 = gl n 8 from rfl, show gl (n_impl_Node n) 9 = gl n 9 from rfl, show gl (n_impl_Node n) 10 = gl n 10 from rfl, show gi (n_impl_Node n) 4 = gi n 4 from rfl, show gi (n_impl_Node n) 5 = gi n 5 from rfl, show gi (n_impl_Node n) 7 = gi n 7 from rfl,
      show gi (n_impl_Node n) 1 = gi n 1 from rfl, show gi (n_impl_Node n) 2 = gi n 2 from rfl, show gi (n_impl_Node n) 0 = gi n 0 from rfl, show gi (n_impl_Node n) 6 = gi n 6 from rfl, show n_impl_Node (n_impl_Node n) = n_impl_Node n from rfl]
    refine chk (fun h => nodeB_false fun p => not_of h ⟨p.com0, p.com1⟩) fun h => ?_
    have com := of_not h
    refine chk (fun h => nodeB_false fun p => not_of h ⟨p.role0, p.role2⟩) fun h => ?_
    have role := of_not h
    refine chk (fun h => nodeB_false fun p => not_of h ⟨p.wait0, p.wait1⟩) fun h => ?_
    have wait := of_not h
    refine chk (fun h => nodeB_false fun p => not_of h p.lvotes) fun h => ?_
    have l8 := of_not h
    refine chk (fun h => nodeB_false fun p => not_of h p.lnext) fun h => ?_
    have l9 := of_not h
    refine chk (fun h => nodeB_false fun p => not_of h p.lmatch) fun h => ?_
    have l10 := of_not h
    clear h
    have hcell := impl_cell_run hn (N := (gl n 8).length) rfl (by omega) (by omega) hlen
    rw [l8] at hcell
    rw [show (k - 0).toNat + 1 = (gl n 8).length + 1 from by omega, hcell, contains_eq hn.2.2.2.2.2.2.2.2.1.1]
    have fin : (gi n 5 = 0 → (List.range (gl n 8).length).all (fun i => !gb (rd (gl n 8) i) 0) = true) → (gi n 5 ≠ 0 → 1 ≤ gi n 1 ∧ gi n 2 = gi n 0) → (gi n 5 = 2 → gi n 6 = gi n 0) →
        (Option.bind (bif (List.range (gl n 8).length).all (cellB n) then some (1, false) else some (0, false)) fun r51 : Nat × Bool => bif (Nat.beq r51.1 0) then some r51.2 else some true) = some (nodeB n k) := by
      intro hv hst hld
      cases hc : (List.range (gl n 8).length).all (cellB n) with
      | false => exact (congrArg some (nodeB_false fun p => by have := p.cells; rw [show (gl n 9).length = (gl n 8).length from by omega, hc] at this; cases this)).symm
      | true =>
        have hcells : (List.range (gl n 9).length).all (cellB n) = true := by rw [show (gl n 9).length = (gl n 8).length from by omega]; exact hc
        have hvotes : (List.range (gl n 8).length).all (voteB n) = true := by
          by_cases h5 : gi n 5 = 0
          · rw [← hv h5]; congr 1; funext i; simp [voteB, h5]
          · rw [List.all_eq_true]; intro i _; simp [voteB, h5]
        refine (congrArg some (decide_eq_true ?_)).symm
        exact { k1 := k1, k5 := k5, id0 := id0, idk := idk, term0 := term.1, term1 := term.2, vote0 := vote.1, votek := (by omega), lead0 := lead.1, leadk := (by omega),
                    len := (by omega), com0 := com.1, com1 := com.2, role0 := role.1, role2 := role.2, wait0 := wait.1, wait1 := wait.2,
                    lvotes := l8, lnext := l9, lmatch := l10, items := hit, cells := hcells, votes := hvotes, stands := hst, leads := hld }
    by_cases h5 : gi n 5 = 0
    · simp only [h5, decide_true, Bool.not_true, cond_false, cond_true, Option.bind_some]
      refine chk (fun h => nodeB_false fun p => ?_) fun h => ?_
      · have := p.votes
        have e : (List.range (gl n 8).length).all (voteB n) = (List.range (gl n 8).length).all (fun i => !gb (rd (gl n 8) i) 0) := by congr 1; funext i; simp [voteB, h5]
        rw [e] at this; rw [this] at h; cases h
      · simp only [show decide ((0 : Int) = 2) = false from rfl, cond_false]
        exact fin (fun _ => by simpa using h) (fun h => absurd h5 h) (fun h => by omega)
    · simp only [h5, decide_false, Bool.not_false, cond_true, cond_false]
      refine chk (fun h => nodeB_false fun p => absurd (yes_of h) (Int.not_lt.2 (p.stands h5).1)) fun h => ?_
      have s1 := no_of h
      refine chk (fun h => nodeB_false fun p => not_of h (p.stands h5).2) fun h => ?_
      have s2 := of_not h
      by_cases h2 : gi n 5 = 2
      · simp only [h2, decide_true, cond_true]
        refine chk (fun h => nodeB_false fun p => not_of h (p.leads h2)) fun h => ?_
        exact fin (fun h => absurd h h5) (fun _ => ⟨Int.not_lt.1 s1, s2⟩) (fun _ => of_not h)
      · simp only [h2, decide_false, cond_false]
        exact fin (fun h => absurd h h5) (fun _ => ⟨Int.not_lt.1 s1, s2⟩) (fun h => absurd h h2)
end Go.Eng.R
open Go Go.Eng
namespace Go.Eng.R
theorem app_loop {F : Nat → List V → Int → Option (List V)} {a : List V} {f : V → V}
    (h1 : ∀ m (i : Nat) r, i < a.length → r.length = i → F (m + 1) r (i : Int) = F m (r ++ [f (rd a i)]) ((i + 1 : Nat) : Int)) (h0 : ∀ m r, F (m + 1) r (a.length : Int) = some r) : F (a.length + 1) [] 0 = some (a.map f) := by
  refine loop_run0 (F := F) (n := a.length) (fun i r => r = (a.take i).map f) (fun o => o = some (a.map f)) ?_ ?_ (by simp)
  · intro m i s hi hI
    refine .inl ⟨_, h1 m i s hi (by rw [hI]; simp; omega), ?_⟩
    have : a[i]? = some (rd a i) := by simp [rd, List.getD, hi]
    rw [hI, List.take_add_one, this]; simp
  · intro m s hI
    rw [h0, hI, List.take_length]
theorem roomyB {n b : Nat} (h : n * b ≤ 140737488355328) (h1 : n ≤ 9223372036854775807) : (roomy n b && true) = true := by rw [roomy_of h h1]; rfl
theorem z_item_le {l : List V} {B : Nat} (h : zS z_Item l ≤ B) : l.length ≤ B ∧ ∀ i, i < l.length → (gl (rd l i) 4).length ≤ B ∧ (gl (rd l i) 5).length ≤ B := by
  refine ⟨by simp only [zS] at h; omega, fun i hi => ?_⟩
  have h1 := sum_take_succ z_Item hi
  have h2 := sumL_take_le z_Item l (i + 1)
  simp only [zS] at h
  have h3 : z_Item (rd l i) = zS z0 (gl (rd l i) 4) + zS z0 (gl (rd l i) 5) := rfl
  rw [zS_z0, zS_z0] at h3
  omega
theorem spec_ownItems_eq {l : List V} (hl : LW W_Item l) (hz : zS z_Item l ≤ 1048576) : spec_l3ownItems l = some (l.map n_impl_Item) := by
  obtain ⟨z1, z2⟩ := z_item_le hz
  unfold spec_l3ownItems
  rw [fuel_eq, app_loop (F := fun m r i => spec_l3ownItems_l3 m l i r) (f := n_impl_Item) ?_ ?_]
  · rfl
  · intro m i r hi hr
    have h1 := z2 i hi
    simp only [spec_l3ownItems_l3, lt_nat hi, idxOk_nat hi, Int.toNat_natCast, cond_true, spec_l3ownItem, show gl (n_impl_Item (rd l i)) 4 = gl (rd l i) 4 from rfl, show gl (n_impl_Item (rd l i)) 5 = gl (rd l i) 5 from rfl]
    rw [roomyB (n := 0 + (gl (rd l i) 4).length) (by omega) (by omega), roomyB (n := 0 + (gl (rd l i) 5).length) (by omega) (by omega), roomyB (n := r.length + 1) (by omega) (by omega)]
    simp only [cond_true, Option.bind_some, wr_succ hi hl.1]
    rfl
  · intro m r; simp only [spec_l3ownItems_l3, lt_self, cond_false]
theorem impl_clone_eq {l : List V} (h : l.length ≤ 1048576) : slices_Clone_byte l = some l := by
  unfold slices_Clone_byte
  rw [roomyB (by omega) (by omega)]; rfl
theorem impl_ownItems_eq {l : List V} (hl : LW W_Item l) (hz : zS z_Item l ≤ 1048576) : impl_ownItems l = some (l.map n_impl_Item) := by
  obtain ⟨z1, z2⟩ := z_item_le hz
  unfold impl_ownItems
  rw [fuel_eq, app_loop (F := fun m r i => impl_ownItems_l3 m l (l.length : Int) i r) (f := n_impl_Item) ?_ ?_]
  · rfl
  · intro m i r hi hr
    have h1 := z2 i hi
    simp only [impl_ownItems_l3, lt_nat hi, idxOk_nat hi, Int.toNat_natCast, cond_true, impl_Cmd_own, impl_Op_own, gl_c0, gl_cs, gi_c0, gi_cs, impl_clone_eq h1.1, impl_clone_eq h1.2, Option.bind_some]
    rw [roomyB (n := r.length + 1) (by omega) (by omega)]
    simp only [cond_true, wr_succ hi hl.1]
    rfl
  · intro m r; simp only [impl_ownItems_l3, lt_self, cond_false]
def newN (id : Int) (k : Nat) : V := V.agg [(V.int .i64 id), (V.int .i64 0), (V.int .i64 (-1)), (V.inl t_impl_Item []), (V.int .i64 0), (V.int .i64 0), (V.int .i64 (-1)), (V.int .i64 0), (V.inl t_bool (List.replicate k (V.bool false))), (V.inl t_int' (List.replicate k (V.int .i64 0))), (V.inl t_int' (List.replicate k (V.int .i64 0)))]
theorem spec_new_eq {id k : Int} (h1 : 1 ≤ k) (h5 : k ≤ 5) : spec_l4new id k = some (newN id k.toNat) := by
  unfold spec_l4new
  rw [decide_eq_true (p := (0 : Int) ≤ k) (by omega), roomy_of (n := k.toNat) (b := 1) (by omega) (by omega), roomy_of (n := k.toNat) (b := 8) (by omega) (by omega)]
  simp only [decide_true, Bool.and_self, cond_true]
  rfl
theorem impl_new_eq {id k : Int} (hk : I64 k) (h1 : 1 ≤ k) (h5 : k ≤ 5) (h0 : 0 ≤ id) (h2 : id < k) : impl_NodeNew id k = some (newN id k.toNat, true) := by
  unfold impl_NodeNew
  rw [server_eq _ _ hk, decide_eq_true ⟨h1, h5⟩, decide_eq_true ⟨h0, h2⟩, decide_eq_true (p := (0 : Int) ≤ k) (by omega), roomy_of (n := k.toNat) (b := 1) (by omega) (by omega), roomy_of (n := k.toNat) (b := 8) (by omega) (by omega)]
  simp only [decide_true, Bool.and_self, cond_true, Bool.not_true, cond_false]
  rfl
def zeroN : V := V.agg [(V.int .i64 0), (V.int .i64 0), (V.int .i64 0), (V.inl t_impl_Item []), (V.int .i64 0), (V.int .i64 0), (V.int .i64 0), (V.int .i64 0), (V.inl t_bool []), (V.inl t_int' []), (V.inl t_int' [])]
theorem I64_lit {n : Int} (h : -9223372036854775808 ≤ n) (h' : n ≤ 9223372036854775807) : I64 n := ⟨h, h'⟩
theorem I64_0 : I64 0 := ⟨by decide, by decide⟩
theorem I64_m1 : I64 (-1) := ⟨by decide, by decide⟩
theorem zeroN_W : W_Node zeroN := ⟨⟨by decide, by decide⟩, ⟨by decide, by decide⟩, ⟨by decide, by decide⟩, LW.nil, ⟨by decide, by decide⟩, ⟨by decide, by decide⟩, ⟨by decide, by decide⟩, ⟨by decide, by decide⟩, LW.nil, LW.nil, LW.nil⟩
theorem LW_rep {w : V → Prop} {x : V} {k : Nat} (h : w x) (hk : k ≤ 9223372036854775807) : LW w (List.replicate k x) := ⟨by simpa using hk, fun y hy => by rw [List.eq_of_mem_replicate hy]; exact h⟩
theorem fall_eq {n : V} (hn : W_Node n) (hz : z_Node n ≤ 1048576) {k : Int} (hk : I64 k) : ∃ g, spec_Fall (n_impl_Node n) k = some g ∧ impl_Fall (n_impl_Node n) k = some g ∧ W_Node g ∧ ct_Node g ≤ 100000000 := by
  unfold spec_Fall impl_Fall
  rw [show n_impl_Node (n_impl_Node n) = n_impl_Node n from rfl, spec_NodeOk_eq hn, impl_NodeOk_eq hn k hk]
  simp only [Option.bind_some]
  cases hb : nodeB n k with
  | false => exact ⟨zeroN, rfl, rfl, zeroN_W, by decide⟩
  | true =>
    have hp : NodeP n k := by simpa [nodeB] using hb
    have hzi : zS z_Item (gl n 3) ≤ 1048576 := by simp only [z_Node] at hz; omega
    have hli := hn.2.2.2.1
    simp only [Bool.not_true, cond_false, show gl (n_impl_Node n) 3 = gl n 3 from rfl, show gi (n_impl_Node n) 0 = gi n 0 from rfl, spec_new_eq (id := gi n 0) hp.k1 hp.k5, impl_new_eq hk hp.k1 hp.k5 hp.id0 hp.idk, spec_ownItems_eq hli hzi, impl_ownItems_eq hli hzi, Option.bind_some]
    refine ⟨_, rfl, rfl, ?_, ?_⟩
    · have hk5 := hp.k5
      refine ⟨hn.1, hn.2.1, hn.2.2.1, ?_, I64_0, I64_0, I64_m1, I64_0, ?_, ?_, ?_⟩
      · exact LW.map (h := n_impl_Item) (fun x hx => hx) hli
      · exact LW_rep (w := W_bool) (x := V.bool false) trivial (by omega)
      · exact LW_rep (w := W_int) (x := V.int .i64 0) I64_0 (by omega)
      · exact LW_rep (w := W_int) (x := V.int .i64 0) I64_0 (by omega)
    · have hk5 := hp.k5
      have e1 : sumL c_Item ((gl n 3).map n_impl_Item) = sumL c_Item (gl n 3) := sumL_map (fun x => rfl) _
      have e2 : sumL c_Item (gl n 3) ≤ 5 * zS z_Item (gl n 3) := sumL_mul 5 fun y _ => c_Item_cz y
      simp only [newN, ct_Node, gl_c0, gl_cs, sumL_c1, List.length_replicate, e1]
      omega
theorem law_Fall {n : V} (hn : W_Node n) {k : Int} (hk : I64 k) : laws_FnExactFall n k = some true := by
  unfold laws_FnExactFall
  obtain ⟨r, e, hr⟩ := laws_szNode_ok (n_laws_Node n) 1048576 hn (by omega) (by omega)
  simp only [e, Option.bind_some]
  rcases hr with hr | ⟨r0, r1, hz⟩
  · rw [decide_eq_true hr]; rfl
  rw [decide_eq_false (p := r < 0) (by omega)]
  have hz : r + ((z_Node n : Nat) : Int) = 1048576 := hz
  have hto : laws_toNode (n_laws_Node n) = some (cnv_Node n) := laws_toNode_ok (n_laws_Node n) hn (by show z_Node n ≤ _; omega)
  have hy : W_Node (cnv_Node n) := cnv_Node_W n hn
  have hyz : z_Node (cnv_Node n) ≤ 1048576 := by rw [cnv_Node_z]; omega
  obtain ⟨g, g1, g2, g3, g4⟩ := fall_eq hy hyz hk
  have hct := ct_Node_cz (cnv_Node n)
  obtain ⟨b0, b1, b2, b3, f1, -⟩ := laws_markNode_ok (n_impl_Node (cnv_Node n)) 1 hy (by omega) (by show (1 : Int) + ((ct_Node (cnv_Node n) : Nat) : Int) ≤ _; omega)
  obtain ⟨d0, d1, d2, d3, f2, q0, s0, q1, s1, q2, s2, q3, s3⟩ := laws_markNode_ok (n_impl_Node g) 1 g3 (by omega) (by show (1 : Int) + ((ct_Node g : Nat) : Int) ≤ _; omega)
  simp only [show ct_Node (n_impl_Node g) = ct_Node g from rfl] at f2
  simp only [show ct_Node (n_impl_Node (cnv_Node n)) = ct_Node (cnv_Node n) from rfl] at f1
  have s0 : sumL c_Item d0 = sumL c_Item (gl g 3) := s0
  have s1 : sumL c1 d1 = sumL c1 (gl g 8) := s1
  have s2 : sumL c1 d2 = sumL c1 (gl g 9) := s2
  have s3 : sumL c1 d3 = sumL c1 (gl g 10) := s3
  have hh := laws_heldNode_ok (V.agg [(V.int .i64 (gi g 0)), (V.int .i64 (gi g 1)), (V.int .i64 (gi g 2)), (V.inl t_impl_Item d0), (V.int .i64 (gi g 4)), (V.int .i64 (gi g 5)), (V.int .i64 (gi g 6)), (V.int .i64 (gi g 7)), (V.inl t_bool d1), (V.inl t_int' d2), (V.inl t_int' d3)]) 1
    q0 (by simp only [gl_c0, gl_cs, s0]; exact q1) (by simp only [gl_c0, gl_cs, s0, s1]; exact q2) (by simp only [gl_c0, gl_cs, s0, s1, s2]; exact q3) (by omega)
    (by simp only [ct_Node, gl_c0, gl_cs, s0, s1, s2, s3] at g4 ⊢; omega)
  have hc : ct_Node (V.agg [(V.int .i64 (gi g 0)), (V.int .i64 (gi g 1)), (V.int .i64 (gi g 2)), (V.inl t_impl_Item d0), (V.int .i64 (gi g 4)), (V.int .i64 (gi g 5)), (V.int .i64 (gi g 6)), (V.int .i64 (gi g 7)), (V.inl t_bool d1), (V.inl t_int' d2), (V.inl t_int' d3)]) = ct_Node g := by
    simp only [ct_Node, gl_c0, gl_cs, s0, s1, s2, s3]
  rw [hc] at hh
  have eq1 := laws_eqNode_ok (n_impl_Node g) g3
  have eq2 := laws_eqNode_ok (n_impl_Node (cnv_Node n)) hy
  simp only [hto, g1, g2, eq1, eq2, f1, f2, hh, Option.bind_some, cond_false, Bool.not_true]
  rw [decide_eq_false (p := (1 : Int) + ((ct_Node (cnv_Node n) : Nat) : Int) < 0) (by omega), decide_eq_false (p := (1 : Int) + ((ct_Node g : Nat) : Int) < 0) (by omega)]
  simp
end Go.Eng.R
open Go Go.Eng
namespace Go.Eng.R
theorem wt_byte {x : V} (h : WtT tab t_byte x) : W_byte x := wt_u8 (h.cell 0 rfl)
theorem wt_laws_Item {x : V} (h : WtT tab t_laws_Item x) : W_Item x := ⟨wt_i64 (h.cell 0 rfl), wt_i64 (h.cell 1 rfl), wt_i64 (h.cell 2 rfl), wt_i64 (h.cell 3 rfl), wt_sl (h.cell 4 rfl) fun _ => wt_byte, wt_sl (h.cell 5 rfl) fun _ => wt_byte, wt_i64 (h.cell 6 rfl)⟩
theorem wt_bool {x : V} (h : WtT tab t_bool x) : W_bool x := trivial
theorem wt_int_ {x : V} (h : WtT tab t_int' x) : W_int x := wt_i64 (h.cell 0 rfl)
theorem wt_laws_Node {x : V} (h : WtT tab t_laws_Node x) : W_Node x := ⟨wt_i64 (h.cell 0 rfl), wt_i64 (h.cell 1 rfl), wt_i64 (h.cell 2 rfl), wt_sl (h.cell 3 rfl) fun _ => wt_laws_Item, wt_i64 (h.cell 4 rfl), wt_i64 (h.cell 5 rfl), wt_i64 (h.cell 6 rfl), wt_i64 (h.cell 7 rfl), wt_sl (h.cell 8 rfl) fun _ => wt_bool, wt_sl (h.cell 9 rfl) fun _ => wt_int_, wt_sl (h.cell 10 rfl) fun _ => wt_int_⟩
def readable : List TypeId := [3, 4, 5, 22, 23, 24, 26, 43, 45, 47, 120]
end Go.Eng.R
