/- An own evaluator of the program's form, proved sound, and what it says of this law's functions: part 3. -/
import Derived.Test.YtmkjebekmeefcaaE2
set_option linter.unusedVariables false
open Go Go.Eng Go.Proofs
namespace Go.Eng.R
def laws_szByteS_c : Cfg := ⟨tab, sumsOf [], fun _ => false, fun f => (look [] f).getD [], false⟩
theorem laws_szByteS_c_ok : SumsOk Try.prog tab laws_szByteS_c.sums := sums_nil
def laws_szByteS_L : Loops := ⟨fun k => (look [] k).getD [], fun k => (look [] k).getD [], fun k => (look [] k).getD [], runL []⟩
def laws_szByteS_sh (r_ : Int) : V × List V := ((V.int .i64 r_), [])
theorem laws_szByteS_e (a : List V) (left : Int) : Tot (wkF [[.dead]] []) laws_szByteS_sh (laws_szByteS a left) (evalFn laws_szByteS_c laws_szByteS_L Try.f104 [(V.inl t_byte a), (V.int .i64 left)]) := by
  have h : evalFn laws_szByteS_c laws_szByteS_L Try.f104 [(V.inl t_byte a), (V.int .i64 left)] = (bif (decide ((IntKind.i64.wrap (left - ((a.length : Nat) : Int))) < 0)) then some ((V.int .i64 (-1)), []) else some ((V.int .i64 (IntKind.i64.wrap (left - ((a.length : Nat) : Int)))), [])) := by kernel_rfl
  rw [h, laws_szByteS]
  clear h
  repeat' (first | refine tot_if ?_ ?_ | refine tot_let fun _ => ?_ | exact tot_leaf (by kernel_rfl))
def laws_szByteS_s (args : List V) : Option (Bool × (V × List V)) := bif argsOk [(.one (.inl t_byte)), (.one (.int .i64))] args then some (true, laws_szByteS_sh (laws_szByteS ((rd args 0).L) ((rd args 1).I))) else none
theorem laws_szByteS_s_ok : ∀ args r, laws_szByteS_s args = some (true, r) → SumOk Try.prog tab 104 args r :=
  Base.sumT (cfg := laws_szByteS_c) (F := fun args => laws_szByteS ((rd args 0).L) ((rd args 1).I)) (shr := laws_szByteS_sh) base laws_szByteS_c_ok Try.func104 (by kernel_rfl) (GoodAll.ok (l := []) GoodAll.nil rfl) [(.one (.inl t_byte)), (.one (.int .i64))] (by kernel_rfl) [[.dead]] [] (by kernel_rfl) fun args h => by
    have q := laws_szByteS_e ((rd args 0).L) ((rd args 1).I)
    rw [show [(V.inl t_byte ((rd args 0).L)), (V.int .i64 ((rd args 1).I))] = args from h] at q
    exact q
def laws_szOp_c : Cfg := ⟨tab, sumsOf [(104, laws_szByteS_s)], fun _ => false, fun f => (look [(104, [some t_byte, none])] f).getD [], false⟩
theorem laws_szOp_c_ok : SumsOk Try.prog tab laws_szOp_c.sums := sums_cons f104_en laws_szByteS_s_ok (sums_nil)
def laws_szOp_L : Loops := ⟨fun k => (look [] k).getD [], fun k => (look [] k).getD [], fun k => (look [] k).getD [], runL []⟩
def laws_szOp_sh (r_ : Int) : V × List V := ((V.int .i64 r_), [])
theorem laws_szOp_e (a : V) (left : Int) : Tot (wkF [[.dead]] []) laws_szOp_sh (laws_szOp a left) (evalFn laws_szOp_c laws_szOp_L Try.f63 [(n_laws_Op a), (V.int .i64 left)]) := by
  have h : evalFn laws_szOp_c laws_szOp_L Try.f63 [(n_laws_Op a), (V.int .i64 left)] = (bif (decide ((laws_szByteS (gl a 1) left) < 0)) then some ((V.int .i64 (-1)), []) else bif (decide ((laws_szByteS (gl a 2) (laws_szByteS (gl a 1) left)) < 0)) then some ((V.int .i64 (-1)), []) else some ((V.int .i64 (laws_szByteS (gl a 2) (laws_szByteS (gl a 1) left))), [])) := by kernel_rfl
  rw [h, laws_szOp]
  clear h
  repeat' (first | refine tot_if ?_ ?_ | refine tot_let fun _ => ?_ | exact tot_leaf (by kernel_rfl))
def laws_szOp_s (args : List V) : Option (Bool × (V × List V)) := bif argsOk [(.agg [(.int .i64), (.inl t_byte), (.inl t_byte), (.int .i64)]), (.one (.int .i64))] args then some (true, laws_szOp_sh (laws_szOp (rd args 0) ((rd args 1).I))) else none
theorem laws_szOp_s_ok : ∀ args r, laws_szOp_s args = some (true, r) → SumOk Try.prog tab 63 args r :=
  Base.sumT (cfg := laws_szOp_c) (F := fun args => laws_szOp (rd args 0) ((rd args 1).I)) (shr := laws_szOp_sh) base laws_szOp_c_ok Try.func63 (by kernel_rfl) (GoodAll.ok (l := []) GoodAll.nil rfl) [(.agg [(.int .i64), (.inl t_byte), (.inl t_byte), (.int .i64)]), (.one (.int .i64))] (by kernel_rfl) [[.dead]] [] (by kernel_rfl) fun args h => by
    have q := laws_szOp_e (rd args 0) ((rd args 1).I)
    rw [show [(n_laws_Op (rd args 0)), (V.int .i64 ((rd args 1).I))] = args from h] at q
    exact q
def laws_szCmd_c : Cfg := ⟨tab, sumsOf [(63, laws_szOp_s)], fun _ => false, fun f => (look [(63, [none, none])] f).getD [], false⟩
theorem laws_szCmd_c_ok : SumsOk Try.prog tab laws_szCmd_c.sums := sums_cons f63_en laws_szOp_s_ok (sums_nil)
def laws_szCmd_L : Loops := ⟨fun k => (look [] k).getD [], fun k => (look [] k).getD [], fun k => (look [] k).getD [], runL []⟩
def laws_szCmd_sh (r_ : Int) : V × List V := ((V.int .i64 r_), [])
theorem laws_szCmd_e (a : V) (left : Int) : Tot (wkF [[.dead]] []) laws_szCmd_sh (laws_szCmd a left) (evalFn laws_szCmd_c laws_szCmd_L Try.f20 [(n_laws_Cmd a), (V.int .i64 left)]) := by
  have h : evalFn laws_szCmd_c laws_szCmd_L Try.f20 [(n_laws_Cmd a), (V.int .i64 left)] = (bif (decide ((laws_szOp (V.agg [(V.int .i64 (gi a 2)), (V.inl t_byte (gl a 3)), (V.inl t_byte (gl a 4)), (V.int .i64 (gi a 5))]) left) < 0)) then some ((V.int .i64 (-1)), []) else some ((V.int .i64 (laws_szOp (V.agg [(V.int .i64 (gi a 2)), (V.inl t_byte (gl a 3)), (V.inl t_byte (gl a 4)), (V.int .i64 (gi a 5))]) left)), [])) := by kernel_rfl
  rw [h, laws_szCmd]
  clear h
  repeat' (first | refine tot_if ?_ ?_ | refine tot_let fun _ => ?_ | exact tot_leaf (by kernel_rfl))
def laws_szCmd_s (args : List V) : Option (Bool × (V × List V)) := bif argsOk [(.agg [(.int .i64), (.int .i64), (.int .i64), (.inl t_byte), (.inl t_byte), (.int .i64)]), (.one (.int .i64))] args then some (true, laws_szCmd_sh (laws_szCmd (rd args 0) ((rd args 1).I))) else none
theorem laws_szCmd_s_ok : ∀ args r, laws_szCmd_s args = some (true, r) → SumOk Try.prog tab 20 args r :=
  Base.sumT (cfg := laws_szCmd_c) (F := fun args => laws_szCmd (rd args 0) ((rd args 1).I)) (shr := laws_szCmd_sh) base laws_szCmd_c_ok Try.func20 (by kernel_rfl) (GoodAll.ok (l := []) GoodAll.nil rfl) [(.agg [(.int .i64), (.int .i64), (.int .i64), (.inl t_byte), (.inl t_byte), (.int .i64)]), (.one (.int .i64))] (by kernel_rfl) [[.dead]] [] (by kernel_rfl) fun args h => by
    have q := laws_szCmd_e (rd args 0) ((rd args 1).I)
    rw [show [(n_laws_Cmd (rd args 0)), (V.int .i64 ((rd args 1).I))] = args from h] at q
    exact q
def laws_szItem_c : Cfg := ⟨tab, sumsOf [(20, laws_szCmd_s)], fun _ => false, fun f => (look [(20, [none, none])] f).getD [], false⟩
theorem laws_szItem_c_ok : SumsOk Try.prog tab laws_szItem_c.sums := sums_cons f20_en laws_szCmd_s_ok (sums_nil)
def laws_szItem_L : Loops := ⟨fun k => (look [] k).getD [], fun k => (look [] k).getD [], fun k => (look [] k).getD [], runL []⟩
def laws_szItem_sh (r_ : Int) : V × List V := ((V.int .i64 r_), [])
theorem laws_szItem_e (a : V) (left : Int) : Tot (wkF [[.dead]] []) laws_szItem_sh (laws_szItem a left) (evalFn laws_szItem_c laws_szItem_L Try.f95 [(n_impl_Item a), (V.int .i64 left)]) := by
  have h : evalFn laws_szItem_c laws_szItem_L Try.f95 [(n_impl_Item a), (V.int .i64 left)] = (bif (decide ((laws_szCmd (V.agg [(V.int .i64 (gi a 1)), (V.int .i64 (gi a 2)), (V.int .i64 (gi a 3)), (V.inl t_byte (gl a 4)), (V.inl t_byte (gl a 5)), (V.int .i64 (gi a 6))]) left) < 0)) then some ((V.int .i64 (-1)), []) else some ((V.int .i64 (laws_szCmd (V.agg [(V.int .i64 (gi a 1)), (V.int .i64 (gi a 2)), (V.int .i64 (gi a 3)), (V.inl t_byte (gl a 4)), (V.inl t_byte (gl a 5)), (V.int .i64 (gi a 6))]) left)), [])) := by kernel_rfl
  rw [h, laws_szItem]
  clear h
  repeat' (first | refine tot_if ?_ ?_ | refine tot_let fun _ => ?_ | exact tot_leaf (by kernel_rfl))
def laws_szItem_s (args : List V) : Option (Bool × (V × List V)) := bif argsOk [(.agg [(.int .i64), (.int .i64), (.int .i64), (.int .i64), (.inl t_byte), (.inl t_byte), (.int .i64)]), (.one (.int .i64))] args then some (true, laws_szItem_sh (laws_szItem (rd args 0) ((rd args 1).I))) else none
theorem laws_szItem_s_ok : ∀ args r, laws_szItem_s args = some (true, r) → SumOk Try.prog tab 95 args r :=
  Base.sumT (cfg := laws_szItem_c) (F := fun args => laws_szItem (rd args 0) ((rd args 1).I)) (shr := laws_szItem_sh) base laws_szItem_c_ok Try.func95 (by kernel_rfl) (GoodAll.ok (l := []) GoodAll.nil rfl) [(.agg [(.int .i64), (.int .i64), (.int .i64), (.int .i64), (.inl t_byte), (.inl t_byte), (.int .i64)]), (.one (.int .i64))] (by kernel_rfl) [[.dead]] [] (by kernel_rfl) fun args h => by
    have q := laws_szItem_e (rd args 0) ((rd args 1).I)
    rw [show [(n_impl_Item (rd args 0)), (V.int .i64 ((rd args 1).I))] = args from h] at q
    exact q
def laws_szItemS_c : Cfg := ⟨tab, sumsOf [(95, laws_szItem_s)], fun _ => false, fun f => (look [(95, [none, none])] f).getD [], false⟩
theorem laws_szItemS_c_ok : SumsOk Try.prog tab laws_szItemS_c.sums := sums_cons f95_en laws_szItem_s_ok (sums_nil)
def laws_szItemS_l5_e : LE := ⟨5, ⟨[(0, (.one (.inl t_laws_Item))), (1, (.one (.int .i64))), (5, (.one (.int .i64)))], [], 0, []⟩, fun st => Out.tst (laws_szItemS_l5 ((((((sv st 0).L).length : Nat) : Int) - ((sv st 2).I)).toNat + 1) ((sv st 0).L) ((sv st 1).I) ((sv st 2).I)).isSome (brs ((fun r_ => r_.1) ((laws_szItemS_l5 ((((((sv st 0).L).length : Nat) : Int) - ((sv st 2).I)).toNat + 1) ((sv st 0).L) ((sv st 1).I) ((sv st 2).I)).getD default)) 0 ((fun r_ => [(Ex.ret, (⟨[(1, (V.int .i64 r_.2.1)), (4, (V.int .i64 r_.2.2))], [], 0, []⟩ : St)), ((Ex.exit 0), (⟨[(1, (V.int .i64 r_.2.1)), (4, V.dead)], [], 0, []⟩ : St))]) ((laws_szItemS_l5 ((((((sv st 0).L).length : Nat) : Int) - ((sv st 2).I)).toNat + 1) ((sv st 0).L) ((sv st 1).I) ((sv st 2).I)).getD default)))⟩
def laws_szItemS_L : Loops := ⟨fun k => (look [(5, [0, 1, 5])] k).getD [], fun k => (look [] k).getD [], fun k => (look [(5, [1, 4])] k).getD [], runL [laws_szItemS_l5_e]⟩
theorem laws_szItemS_l5_ok (k_ : Nat) : ∀ (a0 : List V) (left1 : Int) (i5 : Int), Agr id (fun r_ => pick (r_.1) 0 [(Ex.ret, (⟨[(1, (V.int .i64 r_.2.1)), (4, (V.int .i64 r_.2.2))], [], 0, []⟩ : St)), ((Ex.exit 0), (⟨[(1, (V.int .i64 r_.2.1)), (4, V.dead)], [], 0, []⟩ : St))]) (laws_szItemS_l5 k_ a0 left1 i5) (rounds laws_szItemS_c laws_szItemS_L ((loopsIn (bodyOf Try.f38)).getD 0 .skip) k_ (⟨[(0, (V.inl t_laws_Item a0)), (1, (V.int .i64 left1)), (5, (V.int .i64 i5))], [], 0, []⟩ : St)) := by
  induction k_ with
  | zero => intros; exact agr_none
  | succ k_ ih =>
    intro a0 left1 i5
    have h : rounds laws_szItemS_c laws_szItemS_L ((loopsIn (bodyOf Try.f38)).getD 0 .skip) (k_ + 1) (⟨[(0, (V.inl t_laws_Item a0)), (1, (V.int .i64 left1)), (5, (V.int .i64 i5))], [], 0, []⟩ : St) = (bif (decide (i5 < ((a0.length : Nat) : Int))) then bif (idxOk i5 a0.length) then bif (decide ((laws_szItem (n_impl_Item (rd a0 i5.toNat)) left1) < 0)) then some (Ex.ret, (⟨[(1, (V.int .i64 (laws_szItem (n_impl_Item (rd a0 i5.toNat)) left1))), (4, (V.int .i64 (-1)))], [], 0, []⟩ : St)) else rounds laws_szItemS_c laws_szItemS_L ((loopsIn (bodyOf Try.f38)).getD 0 .skip) k_ (⟨[(0, (V.inl t_laws_Item a0)), (1, (V.int .i64 (laws_szItem (n_impl_Item (rd a0 i5.toNat)) left1))), (5, (V.int .i64 (IntKind.i64.wrap (i5 + 1))))], [], 0, []⟩ : St) else none else some ((Ex.exit 0), (⟨[(1, (V.int .i64 left1)), (4, V.dead)], [], 0, []⟩ : St))) := by kernel_rfl
    rw [h, laws_szItemS_l5]
    clear h
    repeat' (first | exact agr_none | refine agr_if ?_ ?_ | refine agr_call fun _ => ?_ | refine agr_let fun _ => ?_ | exact agr_leaf (by kernel_rfl) | exact ih _ _ _)
theorem laws_szItemS_lo : LoopsOk laws_szItemS_c laws_szItemS_L (bodyOf Try.f38) := by
  refine GoodAll.ok (l := [laws_szItemS_l5_e]) ?_ rfl
  refine GoodAll.cons 0 (by kernel_rfl) ?_ ?_
  · exact good_of (key := 5) (ss := ⟨[(0, (.one (.inl t_laws_Item))), (1, (.one (.int .i64))), (5, (.one (.int .i64)))], [], 0, []⟩) (F := fun st => laws_szItemS_l5 ((((((sv st 0).L).length : Nat) : Int) - ((sv st 2).I)).toNat + 1) ((sv st 0).L) ((sv st 1).I) ((sv st 2).I)) (ix := fun r_ => r_.1) (ps := fun r_ => [(Ex.ret, (⟨[(1, (V.int .i64 r_.2.1)), (4, (V.int .i64 r_.2.2))], [], 0, []⟩ : St)), ((Ex.exit 0), (⟨[(1, (V.int .i64 r_.2.1)), (4, V.dead)], [], 0, []⟩ : St))]) (fun st => (((((sv st 0).L).length : Nat) : Int) - ((sv st 2).I)).toNat + 1) fun st h => by
      have q := laws_szItemS_l5_ok ((((((sv st 0).L).length : Nat) : Int) - ((sv st 2).I)).toNat + 1) ((sv st 0).L) ((sv st 1).I) ((sv st 2).I)
      rw [show (⟨[(0, (V.inl t_laws_Item ((sv st 0).L))), (1, (V.int .i64 ((sv st 1).I))), (5, (V.int .i64 ((sv st 2).I)))], [], 0, []⟩ : St) = st from h] at q
      exact q
  exact GoodAll.nil
def laws_szItemS_sh (r_ : Int) : V × List V := ((V.int .i64 r_), [])
theorem laws_szItemS_e (a : List V) (left : Int) : Agr (wkF [[.dead]] []) laws_szItemS_sh (laws_szItemS a left) (evalFn laws_szItemS_c laws_szItemS_L Try.f38 [(V.inl t_laws_Item a), (V.int .i64 left)]) := by
  have h : evalFn laws_szItemS_c laws_szItemS_L Try.f38 [(V.inl t_laws_Item a), (V.int .i64 left)] = (bif (decide ((IntKind.i64.wrap (left - ((a.length : Nat) : Int))) < 0)) then some ((V.int .i64 (-1)), []) else rcall (laws_szItemS_l5 ((((a.length : Nat) : Int) - 0).toNat + 1) a (IntKind.i64.wrap (left - ((a.length : Nat) : Int))) 0) fun r1 => bif (Nat.beq r1.1 0) then some ((V.int .i64 r1.2.2), []) else some ((V.int .i64 r1.2.1), [])) := by kernel_rfl
  rw [h, laws_szItemS]
  clear h
  repeat' (first | exact agr_none | refine agr_if ?_ ?_ | refine agr_call fun _ => ?_ | refine agr_let fun _ => ?_ | exact agr_leaf (by kernel_rfl))
def laws_szItemS_s (args : List V) : Option (Bool × (V × List V)) := bif argsOk [(.one (.inl t_laws_Item)), (.one (.int .i64))] args then some ((laws_szItemS ((rd args 0).L) ((rd args 1).I)).isSome, laws_szItemS_sh ((laws_szItemS ((rd args 0).L) ((rd args 1).I)).getD default)) else none
theorem laws_szItemS_s_ok : ∀ args r, laws_szItemS_s args = some (true, r) → SumOk Try.prog tab 38 args r :=
  Base.sum (cfg := laws_szItemS_c) (F := fun args => laws_szItemS ((rd args 0).L) ((rd args 1).I)) (shr := laws_szItemS_sh) base laws_szItemS_c_ok Try.func38 (by kernel_rfl) laws_szItemS_lo [(.one (.inl t_laws_Item)), (.one (.int .i64))] (by kernel_rfl) [[.dead]] [] (by kernel_rfl) fun args h => by
    have q := laws_szItemS_e ((rd args 0).L) ((rd args 1).I)
    rw [show [(V.inl t_laws_Item ((rd args 0).L)), (V.int .i64 ((rd args 1).I))] = args from h] at q
    exact q
def laws_szBoolS_c : Cfg := ⟨tab, sumsOf [], fun _ => false, fun f => (look [] f).getD [], false⟩
theorem laws_szBoolS_c_ok : SumsOk Try.prog tab laws_szBoolS_c.sums := sums_nil
def laws_szBoolS_L : Loops := ⟨fun k => (look [] k).getD [], fun k => (look [] k).getD [], fun k => (look [] k).getD [], runL []⟩
def laws_szBoolS_sh (r_ : Int) : V × List V := ((V.int .i64 r_), [])
theorem laws_szBoolS_e (a : List V) (left : Int) : Tot (wkF [[.dead]] []) laws_szBoolS_sh (laws_szBoolS a left) (evalFn laws_szBoolS_c laws_szBoolS_L Try.f39 [(V.inl t_bool a), (V.int .i64 left)]) := by
  have h : evalFn laws_szBoolS_c laws_szBoolS_L Try.f39 [(V.inl t_bool a), (V.int .i64 left)] = (bif (decide ((IntKind.i64.wrap (left - ((a.length : Nat) : Int))) < 0)) then some ((V.int .i64 (-1)), []) else some ((V.int .i64 (IntKind.i64.wrap (left - ((a.length : Nat) : Int)))), [])) := by kernel_rfl
  rw [h, laws_szBoolS]
  clear h
  repeat' (first | refine tot_if ?_ ?_ | refine tot_let fun _ => ?_ | exact tot_leaf (by kernel_rfl))
def laws_szBoolS_s (args : List V) : Option (Bool × (V × List V)) := bif argsOk [(.one (.inl t_bool)), (.one (.int .i64))] args then some (true, laws_szBoolS_sh (laws_szBoolS ((rd args 0).L) ((rd args 1).I))) else none
theorem laws_szBoolS_s_ok : ∀ args r, laws_szBoolS_s args = some (true, r) → SumOk Try.prog tab 39 args r :=
  Base.sumT (cfg := laws_szBoolS_c) (F := fun args => laws_szBoolS ((rd args 0).L) ((rd args 1).I)) (shr := laws_szBoolS_sh) base laws_szBoolS_c_ok Try.func39 (by kernel_rfl) (GoodAll.ok (l := []) GoodAll.nil rfl) [(.one (.inl t_bool)), (.one (.int .i64))] (by kernel_rfl) [[.dead]] [] (by kernel_rfl) fun args h => by
    have q := laws_szBoolS_e ((rd args 0).L) ((rd args 1).I)
    rw [show [(V.inl t_bool ((rd args 0).L)), (V.int .i64 ((rd args 1).I))] = args from h] at q
    exact q
def laws_szIntS_c : Cfg := ⟨tab, sumsOf [], fun _ => false, fun f => (look [] f).getD [], false⟩
theorem laws_szIntS_c_ok : SumsOk Try.prog tab laws_szIntS_c.sums := sums_nil
def laws_szIntS_L : Loops := ⟨fun k => (look [] k).getD [], fun k => (look [] k).getD [], fun k => (look [] k).getD [], runL []⟩
def laws_szIntS_sh (r_ : Int) : V × List V := ((V.int .i64 r_), [])
theorem laws_szIntS_e (a : List V) (left : Int) : Tot (wkF [[.dead]] []) laws_szIntS_sh (laws_szIntS a left) (evalFn laws_szIntS_c laws_szIntS_L Try.f40 [(V.inl t_int' a), (V.int .i64 left)]) := by
  have h : evalFn laws_szIntS_c laws_szIntS_L Try.f40 [(V.inl t_int' a), (V.int .i64 left)] = (bif (decide ((IntKind.i64.wrap (left - ((a.length : Nat) : Int))) < 0)) then some ((V.int .i64 (-1)), []) else some ((V.int .i64 (IntKind.i64.wrap (left - ((a.length : Nat) : Int)))), [])) := by kernel_rfl
  rw [h, laws_szIntS]
  clear h
  repeat' (first | refine tot_if ?_ ?_ | refine tot_let fun _ => ?_ | exact tot_leaf (by kernel_rfl))
def laws_szIntS_s (args : List V) : Option (Bool × (V × List V)) := bif argsOk [(.one (.inl t_int')), (.one (.int .i64))] args then some (true, laws_szIntS_sh (laws_szIntS ((rd args 0).L) ((rd args 1).I))) else none
theorem laws_szIntS_s_ok : ∀ args r, laws_szIntS_s args = some (true, r) → SumOk Try.prog tab 40 args r :=
  Base.sumT (cfg := laws_szIntS_c) (F := fun args => laws_szIntS ((rd args 0).L) ((rd args 1).I)) (shr := laws_szIntS_sh) base laws_szIntS_c_ok Try.func40 (by kernel_rfl) (GoodAll.ok (l := []) GoodAll.nil rfl) [(.one (.inl t_int')), (.one (.int .i64))] (by kernel_rfl) [[.dead]] [] (by kernel_rfl) fun args h => by
    have q := laws_szIntS_e ((rd args 0).L) ((rd args 1).I)
    rw [show [(V.inl t_int' ((rd args 0).L)), (V.int .i64 ((rd args 1).I))] = args from h] at q
    exact q
def laws_szNode_c : Cfg := ⟨tab, sumsOf [(38, laws_szItemS_s), (39, laws_szBoolS_s), (40, laws_szIntS_s)], fun _ => false, fun f => (look [(38, [some t_laws_Item, none]), (39, [some t_bool, none]), (40, [some t_int', none])] f).getD [], false⟩
theorem laws_szNode_c_ok : SumsOk Try.prog tab laws_szNode_c.sums := sums_cons f38_en laws_szItemS_s_ok (sums_cons f39_en laws_szBoolS_s_ok (sums_cons f40_en laws_szIntS_s_ok (sums_nil)))
def laws_szNode_L : Loops := ⟨fun k => (look [] k).getD [], fun k => (look [] k).getD [], fun k => (look [] k).getD [], runL []⟩
def laws_szNode_sh (r_ : Int) : V × List V := ((V.int .i64 r_), [])
theorem laws_szNode_e (a : V) (left : Int) : Agr (wkF [[.dead]] []) laws_szNode_sh (laws_szNode a left) (evalFn laws_szNode_c laws_szNode_L Try.f8 [(n_laws_Node a), (V.int .i64 left)]) := by
  have h : evalFn laws_szNode_c laws_szNode_L Try.f8 [(n_laws_Node a), (V.int .i64 left)] = (rcall (laws_szItemS (gl a 3) left) fun r2 => bif (decide (r2 < 0)) then some ((V.int .i64 (-1)), []) else bif (decide ((laws_szBoolS (gl a 8) r2) < 0)) then some ((V.int .i64 (-1)), []) else bif (decide ((laws_szIntS (gl a 9) (laws_szBoolS (gl a 8) r2)) < 0)) then some ((V.int .i64 (-1)), []) else bif (decide ((laws_szIntS (gl a 10) (laws_szIntS (gl a 9) (laws_szBoolS (gl a 8) r2))) < 0)) then some ((V.int .i64 (-1)), []) else some ((V.int .i64 (laws_szIntS (gl a 10) (laws_szIntS (gl a 9) (laws_szBoolS (gl a 8) r2)))), [])) := by kernel_rfl
  rw [h, laws_szNode]
  clear h
  repeat' (first | exact agr_none | refine agr_if ?_ ?_ | refine agr_call fun _ => ?_ | refine agr_let fun _ => ?_ | exact agr_leaf (by kernel_rfl))
def laws_szNode_s (args : List V) : Option (Bool × (V × List V)) := bif argsOk [(.agg [(.int .i64), (.int .i64), (.int .i64), (.inl t_laws_Item), (.int .i64), (.int .i64), (.int .i64), (.int .i64), (.inl t_bool), (.inl t_int'), (.inl t_int')]), (.one (.int .i64))] args then some ((laws_szNode (rd args 0) ((rd args 1).I)).isSome, laws_szNode_sh ((laws_szNode (rd args 0) ((rd args 1).I)).getD default)) else none
theorem laws_szNode_s_ok : ∀ args r, laws_szNode_s args = some (true, r) → SumOk Try.prog tab 8 args r :=
  Base.sum (cfg := laws_szNode_c) (F := fun args => laws_szNode (rd args 0) ((rd args 1).I)) (shr := laws_szNode_sh) base laws_szNode_c_ok Try.func8 (by kernel_rfl) (GoodAll.ok (l := []) GoodAll.nil rfl) [(.agg [(.int .i64), (.int .i64), (.int .i64), (.inl t_laws_Item), (.int .i64), (.int .i64), (.int .i64), (.int .i64), (.inl t_bool), (.inl t_int'), (.inl t_int')]), (.one (.int .i64))] (by kernel_rfl) [[.dead]] [] (by kernel_rfl) fun args h => by
    have q := laws_szNode_e (rd args 0) ((rd args 1).I)
    rw [show [(n_laws_Node (rd args 0)), (V.int .i64 ((rd args 1).I))] = args from h] at q
    exact q
def laws_toByteS_c : Cfg := ⟨tab, sumsOf [], fun _ => false, fun f => (look [] f).getD [], false⟩
theorem laws_toByteS_c_ok : SumsOk Try.prog tab laws_toByteS_c.sums := sums_nil
def laws_toByteS_l3_e : LE := ⟨3, ⟨[(0, (.one (.inl t_byte))), (3, (.one (.sl 0 t_byte))), (4, (.one (.int .i64)))], [(.row t_byte true)], 1, []⟩, fun st => Out.tst (laws_toByteS_l3 ((((((sv st 0).L).length : Nat) : Int) - ((sv st 2).I)).toNat + 1) ((sv st 0).L) ((sv st 2).I) (br st 0)).isSome (brs ((fun r_ => 0) ((laws_toByteS_l3 ((((((sv st 0).L).length : Nat) : Int) - ((sv st 2).I)).toNat + 1) ((sv st 0).L) ((sv st 2).I) (br st 0)).getD default)) 0 ((fun r_ => [((Ex.exit 0), (⟨[(3, (V.sl 0 t_byte 0 none))], [(0, some (Blk.row t_byte true r_))], 1, []⟩ : St))]) ((laws_toByteS_l3 ((((((sv st 0).L).length : Nat) : Int) - ((sv st 2).I)).toNat + 1) ((sv st 0).L) ((sv st 2).I) (br st 0)).getD default)))⟩
def laws_toByteS_L : Loops := ⟨fun k => (look [(3, [0, 3, 4])] k).getD [], fun k => (look [] k).getD [], fun k => (look [(3, [3])] k).getD [], runL [laws_toByteS_l3_e]⟩
theorem laws_toByteS_l3_ok (k_ : Nat) : ∀ (a0 : List V) (i4 : Int) (r0 : List V), Agr id (fun r_ => pick (0) 0 [((Ex.exit 0), (⟨[(3, (V.sl 0 t_byte 0 none))], [(0, some (Blk.row t_byte true r_))], 1, []⟩ : St))]) (laws_toByteS_l3 k_ a0 i4 r0) (rounds laws_toByteS_c laws_toByteS_L ((loopsIn (bodyOf Try.f108)).getD 0 .skip) k_ (⟨[(0, (V.inl t_byte a0)), (3, (V.sl 0 t_byte 0 none)), (4, (V.int .i64 i4))], [(0, some (Blk.row t_byte true r0))], 1, []⟩ : St)) := by
  induction k_ with
  | zero => intros; exact agr_none
  | succ k_ ih =>
    intro a0 i4 r0
    have h : rounds laws_toByteS_c laws_toByteS_L ((loopsIn (bodyOf Try.f108)).getD 0 .skip) (k_ + 1) (⟨[(0, (V.inl t_byte a0)), (3, (V.sl 0 t_byte 0 none)), (4, (V.int .i64 i4))], [(0, some (Blk.row t_byte true r0))], 1, []⟩ : St) = (bif (decide (i4 < ((a0.length : Nat) : Int))) then bif (idxOk i4 a0.length) then bif (idxOk i4 r0.length) then rounds laws_toByteS_c laws_toByteS_L ((loopsIn (bodyOf Try.f108)).getD 0 .skip) k_ (⟨[(0, (V.inl t_byte a0)), (3, (V.sl 0 t_byte 0 none)), (4, (V.int .i64 (IntKind.i64.wrap (i4 + 1))))], [(0, some (Blk.row t_byte true (r0.set (0 + i4.toNat) (V.int .u8 (gi (rd a0 i4.toNat) 0)))))], 1, []⟩ : St) else none else none else some ((Ex.exit 0), (⟨[(3, (V.sl 0 t_byte 0 none))], [(0, some (Blk.row t_byte true r0))], 1, []⟩ : St))) := by kernel_rfl
    rw [h, laws_toByteS_l3]
    clear h
    repeat' (first | exact agr_none | refine agr_if ?_ ?_ | refine agr_call fun _ => ?_ | refine agr_let fun _ => ?_ | exact agr_leaf (by kernel_rfl) | exact ih _ _ _)
theorem laws_toByteS_lo : LoopsOk laws_toByteS_c laws_toByteS_L (bodyOf Try.f108) := by
  refine GoodAll.ok (l := [laws_toByteS_l3_e]) ?_ rfl
  refine GoodAll.cons 0 (by kernel_rfl) ?_ ?_
  · exact good_of (key := 3) (ss := ⟨[(0, (.one (.inl t_byte))), (3, (.one (.sl 0 t_byte))), (4, (.one (.int .i64)))], [(.row t_byte true)], 1, []⟩) (F := fun st => laws_toByteS_l3 ((((((sv st 0).L).length : Nat) : Int) - ((sv st 2).I)).toNat + 1) ((sv st 0).L) ((sv st 2).I) (br st 0)) (ix := fun r_ => 0) (ps := fun r_ => [((Ex.exit 0), (⟨[(3, (V.sl 0 t_byte 0 none))], [(0, some (Blk.row t_byte true r_))], 1, []⟩ : St))]) (fun st => (((((sv st 0).L).length : Nat) : Int) - ((sv st 2).I)).toNat + 1) fun st h => by
      have q := laws_toByteS_l3_ok ((((((sv st 0).L).length : Nat) : Int) - ((sv st 2).I)).toNat + 1) ((sv st 0).L) ((sv st 2).I) (br st 0)
      rw [show (⟨[(0, (V.inl t_byte ((sv st 0).L))), (3, (V.sl 0 t_byte 0 none)), (4, (V.int .i64 ((sv st 2).I)))], [(0, some (Blk.row t_byte true (br st 0)))], 1, []⟩ : St) = st from h] at q
      exact q
  exact GoodAll.nil
def laws_toByteS_sh (r_ : List V) : V × List V := ((V.rr t_byte true r_), [])
theorem laws_toByteS_e (a : List V) : Agr (wkF [[(.rr t_byte true)]] []) laws_toByteS_sh (laws_toByteS a) (evalFn laws_toByteS_c laws_toByteS_L Try.f108 [(V.inl t_byte a)]) := by
  have h : evalFn laws_toByteS_c laws_toByteS_L Try.f108 [(V.inl t_byte a)] = (bif (((decide ((0 : Int) ≤ ((a.length : Nat) : Int))) && decide (((a.length : Nat) : Int) = ((a.length : Nat) : Int))) && (roomy (((a.length : Nat) : Int).toNat) 1)) then rcall (laws_toByteS_l3 ((((a.length : Nat) : Int) - 0).toNat + 1) a 0 (List.replicate (((a.length : Nat) : Int).toNat) (V.int .u8 0))) fun r4 => some ((V.rr t_byte true r4), []) else none) := by kernel_rfl
  rw [h, laws_toByteS]
  clear h
  repeat' (first | exact agr_none | refine agr_if ?_ ?_ | refine agr_call fun _ => ?_ | refine agr_let fun _ => ?_ | exact agr_leaf (by kernel_rfl))
def laws_toByteS_s (args : List V) : Option (Bool × (V × List V)) := bif argsOk [(.one (.inl t_byte))] args then some ((laws_toByteS ((rd args 0).L)).isSome, laws_toByteS_sh ((laws_toByteS ((rd args 0).L)).getD default)) else none
theorem laws_toByteS_s_ok : ∀ args r, laws_toByteS_s args = some (true, r) → SumOk Try.prog tab 108 args r :=
  Base.sum (cfg := laws_toByteS_c) (F := fun args => laws_toByteS ((rd args 0).L)) (shr := laws_toByteS_sh) base laws_toByteS_c_ok Try.func108 (by kernel_rfl) laws_toByteS_lo [(.one (.inl t_byte))] (by kernel_rfl) [[(.rr t_byte true)]] [] (by kernel_rfl) fun args h => by
    have q := laws_toByteS_e ((rd args 0).L)
    rw [show [(V.inl t_byte ((rd args 0).L))] = args from h] at q
    exact q
def laws_toOp_c : Cfg := ⟨tab, sumsOf [(108, laws_toByteS_s)], fun _ => false, fun f => (look [(108, [some t_byte])] f).getD [], false⟩
theorem laws_toOp_c_ok : SumsOk Try.prog tab laws_toOp_c.sums := sums_cons f108_en laws_toByteS_s_ok (sums_nil)
def laws_toOp_L : Loops := ⟨fun k => (look [] k).getD [], fun k => (look [] k).getD [], fun k => (look [] k).getD [], runL []⟩
def laws_toOp_sh (r_ : V) : V × List V := ((V.agg [(V.int .i64 (gi r_ 0)), (V.rr t_byte true (gl r_ 1)), (V.rr t_byte true (gl r_ 2)), (V.int .i64 (gi r_ 3))]), [])
theorem laws_toOp_e (a : V) : Agr (wkF [[.dead, (.rr t_byte true), (.rr t_byte true), .dead]] []) laws_toOp_sh (laws_toOp a) (evalFn laws_toOp_c laws_toOp_L Try.f67 [(n_laws_Op a)]) := by
  have h : evalFn laws_toOp_c laws_toOp_L Try.f67 [(n_laws_Op a)] = (rcall (laws_toByteS (gl a 1)) fun r5 => rcall (laws_toByteS (gl a 2)) fun r6 => some ((V.agg [(V.int .i64 (gi a 0)), (V.rr t_byte true r5), (V.rr t_byte true r6), (V.int .i64 (gi a 3))]), [])) := by kernel_rfl
  rw [h, laws_toOp]
  clear h
  repeat' (first | exact agr_none | refine agr_if ?_ ?_ | refine agr_call fun _ => ?_ | refine agr_let fun _ => ?_ | exact agr_leaf (by kernel_rfl))
def laws_toOp_s (args : List V) : Option (Bool × (V × List V)) := bif argsOk [(.agg [(.int .i64), (.inl t_byte), (.inl t_byte), (.int .i64)])] args then some ((laws_toOp (rd args 0)).isSome, laws_toOp_sh ((laws_toOp (rd args 0)).getD default)) else none
theorem laws_toOp_s_ok : ∀ args r, laws_toOp_s args = some (true, r) → SumOk Try.prog tab 67 args r :=
  Base.sum (cfg := laws_toOp_c) (F := fun args => laws_toOp (rd args 0)) (shr := laws_toOp_sh) base laws_toOp_c_ok Try.func67 (by kernel_rfl) (GoodAll.ok (l := []) GoodAll.nil rfl) [(.agg [(.int .i64), (.inl t_byte), (.inl t_byte), (.int .i64)])] (by kernel_rfl) [[.dead, (.rr t_byte true), (.rr t_byte true), .dead]] [] (by kernel_rfl) fun args h => by
    have q := laws_toOp_e (rd args 0)
    rw [show [(n_laws_Op (rd args 0))] = args from h] at q
    exact q
def laws_toCmd_c : Cfg := ⟨tab, sumsOf [(67, laws_toOp_s)], fun _ => false, fun f => (look [(67, [none])] f).getD [], false⟩
theorem laws_toCmd_c_ok : SumsOk Try.prog tab laws_toCmd_c.sums := sums_cons f67_en laws_toOp_s_ok (sums_nil)
def laws_toCmd_L : Loops := ⟨fun k => (look [] k).getD [], fun k => (look [] k).getD [], fun k => (look [] k).getD [], runL []⟩
def laws_toCmd_sh (r_ : V) : V × List V := ((V.agg [(V.int .i64 (gi r_ 0)), (V.int .i64 (gi r_ 1)), (V.int .i64 (gi r_ 2)), (V.rr t_byte true (gl r_ 3)), (V.rr t_byte true (gl r_ 4)), (V.int .i64 (gi r_ 5))]), [])
theorem laws_toCmd_e (a : V) : Agr (wkF [[.dead, .dead, .dead, (.rr t_byte true), (.rr t_byte true), .dead]] []) laws_toCmd_sh (laws_toCmd a) (evalFn laws_toCmd_c laws_toCmd_L Try.f22 [(n_laws_Cmd a)]) := by
  have h : evalFn laws_toCmd_c laws_toCmd_L Try.f22 [(n_laws_Cmd a)] = (rcall (laws_toOp (V.agg [(V.int .i64 (gi a 2)), (V.inl t_byte (gl a 3)), (V.inl t_byte (gl a 4)), (V.int .i64 (gi a 5))])) fun r7 => some ((V.agg [(V.int .i64 (gi a 0)), (V.int .i64 (gi a 1)), (V.int .i64 (gi r7 0)), (V.rr t_byte true (gl r7 1)), (V.rr t_byte true (gl r7 2)), (V.int .i64 (gi r7 3))]), [])) := by kernel_rfl
  rw [h, laws_toCmd]
  clear h
  repeat' (first | exact agr_none | refine agr_if ?_ ?_ | refine agr_call fun _ => ?_ | refine agr_let fun _ => ?_ | exact agr_leaf (by kernel_rfl))
def laws_toCmd_s (args : List V) : Option (Bool × (V × List V)) := bif argsOk [(.agg [(.int .i64), (.int .i64), (.int .i64), (.inl t_byte), (.inl t_byte), (.int .i64)])] args then some ((laws_toCmd (rd args 0)).isSome, laws_toCmd_sh ((laws_toCmd (rd args 0)).getD default)) else none
theorem laws_toCmd_s_ok : ∀ args r, laws_toCmd_s args = some (true, r) → SumOk Try.prog tab 22 args r :=
  Base.sum (cfg := laws_toCmd_c) (F := fun args => laws_toCmd (rd args 0)) (shr := laws_toCmd_sh) base laws_toCmd_c_ok Try.func22 (by kernel_rfl) (GoodAll.ok (l := []) GoodAll.nil rfl) [(.agg [(.int .i64), (.int .i64), (.int .i64), (.inl t_byte), (.inl t_byte), (.int .i64)])] (by kernel_rfl) [[.dead, .dead, .dead, (.rr t_byte true), (.rr t_byte true), .dead]] [] (by kernel_rfl) fun args h => by
    have q := laws_toCmd_e (rd args 0)
    rw [show [(n_laws_Cmd (rd args 0))] = args from h] at q
    exact q
def laws_toItem_c : Cfg := ⟨tab, sumsOf [(22, laws_toCmd_s)], fun _ => false, fun f => (look [(22, [none])] f).getD [], false⟩
theorem laws_toItem_c_ok : SumsOk Try.prog tab laws_toItem_c.sums := sums_cons f22_en laws_toCmd_s_ok (sums_nil)
def laws_toItem_L : Loops := ⟨fun k => (look [] k).getD [], fun k => (look [] k).getD [], fun k => (look [] k).getD [], runL []⟩
def laws_toItem_sh (r_ : V) : V × List V := ((V.agg [(V.int .i64 (gi r_ 0)), (V.int .i64 (gi r_ 1)), (V.int .i64 (gi r_ 2)), (V.int .i64 (gi r_ 3)), (V.rr t_byte true (gl r_ 4)), (V.rr t_byte true (gl r_ 5)), (V.int .i64 (gi r_ 6))]), [])
theorem laws_toItem_e (a : V) : Agr (wkF [[.dead, .dead, .dead, .dead, (.rr t_byte true), (.rr t_byte true), .dead]] []) laws_toItem_sh (laws_toItem a) (evalFn laws_toItem_c laws_toItem_L Try.f97 [(n_impl_Item a)]) := by
  have h : evalFn laws_toItem_c laws_toItem_L Try.f97 [(n_impl_Item a)] = (rcall (laws_toCmd (V.agg [(V.int .i64 (gi a 1)), (V.int .i64 (gi a 2)), (V.int .i64 (gi a 3)), (V.inl t_byte (gl a 4)), (V.inl t_byte (gl a 5)), (V.int .i64 (gi a 6))])) fun r8 => some ((V.agg [(V.int .i64 (gi a 0)), (V.int .i64 (gi r8 0)), (V.int .i64 (gi r8 1)), (V.int .i64 (gi r8 2)), (V.rr t_byte true (gl r8 3)), (V.rr t_byte true (gl r8 4)), (V.int .i64 (gi r8 5))]), [])) := by kernel_rfl
  rw [h, laws_toItem]
  clear h
  repeat' (first | exact agr_none | refine agr_if ?_ ?_ | refine agr_call fun _ => ?_ | refine agr_let fun _ => ?_ | exact agr_leaf (by kernel_rfl))
def laws_toItem_s (args : List V) : Option (Bool × (V × List V)) := bif argsOk [(.agg [(.int .i64), (.int .i64), (.int .i64), (.int .i64), (.inl t_byte), (.inl t_byte), (.int .i64)])] args then some ((laws_toItem (rd args 0)).isSome, laws_toItem_sh ((laws_toItem (rd args 0)).getD default)) else none
theorem laws_toItem_s_ok : ∀ args r, laws_toItem_s args = some (true, r) → SumOk Try.prog tab 97 args r :=
  Base.sum (cfg := laws_toItem_c) (F := fun args => laws_toItem (rd args 0)) (shr := laws_toItem_sh) base laws_toItem_c_ok Try.func97 (by kernel_rfl) (GoodAll.ok (l := []) GoodAll.nil rfl) [(.agg [(.int .i64), (.int .i64), (.int .i64), (.int .i64), (.inl t_byte), (.inl t_byte), (.int .i64)])] (by kernel_rfl) [[.dead, .dead, .dead, .dead, (.rr t_byte true), (.rr t_byte true), .dead]] [] (by kernel_rfl) fun args h => by
    have q := laws_toItem_e (rd args 0)
    rw [show [(n_impl_Item (rd args 0))] = args from h] at q
    exact q
def laws_toItemS_c : Cfg := ⟨tab, sumsOf [(97, laws_toItem_s)], fun _ => false, fun f => (look [(97, [none])] f).getD [], false⟩
theorem laws_toItemS_c_ok : SumsOk Try.prog tab laws_toItemS_c.sums := sums_cons f97_en laws_toItem_s_ok (sums_nil)
def laws_toItemS_l3_e : LE := ⟨3, ⟨[(0, (.one (.inl t_laws_Item))), (3, (.one (.sl 0 t_impl_Item))), (4, (.one (.int .i64)))], [(.row t_impl_Item true)], 1, []⟩, fun st => Out.tst (laws_toItemS_l3 ((((((sv st 0).L).length : Nat) : Int) - ((sv st 2).I)).toNat + 1) ((sv st 0).L) ((sv st 2).I) (br st 0)).isSome (brs ((fun r_ => 0) ((laws_toItemS_l3 ((((((sv st 0).L).length : Nat) : Int) - ((sv st 2).I)).toNat + 1) ((sv st 0).L) ((sv st 2).I) (br st 0)).getD default)) 0 ((fun r_ => [((Ex.exit 0), (⟨[(3, (V.sl 0 t_impl_Item 0 none))], [(0, some (Blk.row t_impl_Item true r_))], 1, []⟩ : St))]) ((laws_toItemS_l3 ((((((sv st 0).L).length : Nat) : Int) - ((sv st 2).I)).toNat + 1) ((sv st 0).L) ((sv st 2).I) (br st 0)).getD default)))⟩
def laws_toItemS_L : Loops := ⟨fun k => (look [(3, [0, 3, 4])] k).getD [], fun k => (look [] k).getD [], fun k => (look [(3, [3])] k).getD [], runL [laws_toItemS_l3_e]⟩
theorem laws_toItemS_l3_ok (k_ : Nat) : ∀ (a0 : List V) (i4 : Int) (r0 : List V), Agr id (fun r_ => pick (0) 0 [((Ex.exit 0), (⟨[(3, (V.sl 0 t_impl_Item 0 none))], [(0, some (Blk.row t_impl_Item true r_))], 1, []⟩ : St))]) (laws_toItemS_l3 k_ a0 i4 r0) (rounds laws_toItemS_c laws_toItemS_L ((loopsIn (bodyOf Try.f43)).getD 0 .skip) k_ (⟨[(0, (V.inl t_laws_Item a0)), (3, (V.sl 0 t_impl_Item 0 none)), (4, (V.int .i64 i4))], [(0, some (Blk.row t_impl_Item true r0))], 1, []⟩ : St)) := by
  induction k_ with
  | zero => intros; exact agr_none
  | succ k_ ih =>
    intro a0 i4 r0
    have h : rounds laws_toItemS_c laws_toItemS_L ((loopsIn (bodyOf Try.f43)).getD 0 .skip) (k_ + 1) (⟨[(0, (V.inl t_laws_Item a0)), (3, (V.sl 0 t_impl_Item 0 none)), (4, (V.int .i64 i4))], [(0, some (Blk.row t_impl_Item true r0))], 1, []⟩ : St) = (bif (decide (i4 < ((a0.length : Nat) : Int))) then bif (idxOk i4 a0.length) then rcall (laws_toItem (n_impl_Item (rd a0 i4.toNat))) fun r9 => bif (idxOk i4 r0.length) then rounds laws_toItemS_c laws_toItemS_L ((loopsIn (bodyOf Try.f43)).getD 0 .skip) k_ (⟨[(0, (V.inl t_laws_Item a0)), (3, (V.sl 0 t_impl_Item 0 none)), (4, (V.int .i64 (IntKind.i64.wrap (i4 + 1))))], [(0, some (Blk.row t_impl_Item true (r0.set (0 + i4.toNat) (n_impl_Item r9))))], 1, []⟩ : St) else none else none else some ((Ex.exit 0), (⟨[(3, (V.sl 0 t_impl_Item 0 none))], [(0, some (Blk.row t_impl_Item true r0))], 1, []⟩ : St))) := by kernel_rfl
    rw [h, laws_toItemS_l3]
    clear h
    repeat' (first | exact agr_none | refine agr_if ?_ ?_ | refine agr_call fun _ => ?_ | refine agr_let fun _ => ?_ | exact agr_leaf (by kernel_rfl) | exact ih _ _ _)
theorem laws_toItemS_lo : LoopsOk laws_toItemS_c laws_toItemS_L (bodyOf Try.f43) := by
  refine GoodAll.ok (l := [laws_toItemS_l3_e]) ?_ rfl
  refine GoodAll.cons 0 (by kernel_rfl) ?_ ?_
  · exact good_of (key := 3) (ss := ⟨[(0, (.one (.inl t_laws_Item))), (3, (.one (.sl 0 t_impl_Item))), (4, (.one (.int .i64)))], [(.row t_impl_Item true)], 1, []⟩) (F := fun st => laws_toItemS_l3 ((((((sv st 0).L).length : Nat) : Int) - ((sv st 2).I)).toNat + 1) ((sv st 0).L) ((sv st 2).I) (br st 0)) (ix := fun r_ => 0) (ps := fun r_ => [((Ex.exit 0), (⟨[(3, (V.sl 0 t_impl_Item 0 none))], [(0, some (Blk.row t_impl_Item true r_))], 1, []⟩ : St))]) (fun st => (((((sv st 0).L).length : Nat) : Int) - ((sv st 2).I)).toNat + 1) fun st h => by
      have q := laws_toItemS_l3_ok ((((((sv st 0).L).length : Nat) : Int) - ((sv st 2).I)).toNat + 1) ((sv st 0).L) ((sv st 2).I) (br st 0)
      rw [show (⟨[(0, (V.inl t_laws_Item ((sv st 0).L))), (3, (V.sl 0 t_impl_Item 0 none)), (4, (V.int .i64 ((sv st 2).I)))], [(0, some (Blk.row t_impl_Item true (br st 0)))], 1, []⟩ : St) = st from h] at q
      exact q
  exact GoodAll.nil
def laws_toItemS_sh (r_ : List V) : V × List V := ((V.rr t_impl_Item true r_), [])
theorem laws_toItemS_e (a : List V) : Agr (wkF [[(.rr t_impl_Item true)]] []) laws_toItemS_sh (laws_toItemS a) (evalFn laws_toItemS_c laws_toItemS_L Try.f43 [(V.inl t_laws_Item a)]) := by
  have h : evalFn laws_toItemS_c laws_toItemS_L Try.f43 [(V.inl t_laws_Item a)] = (bif (((decide ((0 : Int) ≤ ((a.length : Nat) : Int))) && decide (((a.length : Nat) : Int) = ((a.length : Nat) : Int))) && (roomy (((a.length : Nat) : Int).toNat) 88)) then rcall (laws_toItemS_l3 ((((a.length : Nat) : Int) - 0).toNat + 1) a 0 (List.replicate (((a.length : Nat) : Int).toNat) (V.agg [(V.int .i64 0), (V.int .i64 0), (V.int .i64 0), (V.int .i64 0), (V.inl t_byte []), (V.inl t_byte []), (V.int .i64 0)]))) fun r10 => some ((V.rr t_impl_Item true r10), []) else none) := by kernel_rfl
  rw [h, laws_toItemS]
  clear h
  repeat' (first | exact agr_none | refine agr_if ?_ ?_ | refine agr_call fun _ => ?_ | refine agr_let fun _ => ?_ | exact agr_leaf (by kernel_rfl))
def laws_toItemS_s (args : List V) : Option (Bool × (V × List V)) := bif argsOk [(.one (.inl t_laws_Item))] args then some ((laws_toItemS ((rd args 0).L)).isSome, laws_toItemS_sh ((laws_toItemS ((rd args 0).L)).getD default)) else none
theorem laws_toItemS_s_ok : ∀ args r, laws_toItemS_s args = some (true, r) → SumOk Try.prog tab 43 args r :=
  Base.sum (cfg := laws_toItemS_c) (F := fun args => laws_toItemS ((rd args 0).L)) (shr := laws_toItemS_sh) base laws_toItemS_c_ok Try.func43 (by kernel_rfl) laws_toItemS_lo [(.one (.inl t_laws_Item))] (by kernel_rfl) [[(.rr t_impl_Item true)]] [] (by kernel_rfl) fun args h => by
    have q := laws_toItemS_e ((rd args 0).L)
    rw [show [(V.inl t_laws_Item ((rd args 0).L))] = args from h] at q
    exact q
def laws_toBoolS_c : Cfg := ⟨tab, sumsOf [], fun _ => false, fun f => (look [] f).getD [], false⟩
theorem laws_toBoolS_c_ok : SumsOk Try.prog tab laws_toBoolS_c.sums := sums_nil
def laws_toBoolS_l3_e : LE := ⟨3, ⟨[(0, (.one (.inl t_bool))), (3, (.one (.sl 0 t_bool))), (4, (.one (.int .i64)))], [(.row t_bool true)], 1, []⟩, fun st => Out.tst (laws_toBoolS_l3 ((((((sv st 0).L).length : Nat) : Int) - ((sv st 2).I)).toNat + 1) ((sv st 0).L) ((sv st 2).I) (br st 0)).isSome (brs ((fun r_ => 0) ((laws_toBoolS_l3 ((((((sv st 0).L).length : Nat) : Int) - ((sv st 2).I)).toNat + 1) ((sv st 0).L) ((sv st 2).I) (br st 0)).getD default)) 0 ((fun r_ => [((Ex.exit 0), (⟨[(3, (V.sl 0 t_bool 0 none))], [(0, some (Blk.row t_bool true r_))], 1, []⟩ : St))]) ((laws_toBoolS_l3 ((((((sv st 0).L).length : Nat) : Int) - ((sv st 2).I)).toNat + 1) ((sv st 0).L) ((sv st 2).I) (br st 0)).getD default)))⟩
def laws_toBoolS_L : Loops := ⟨fun k => (look [(3, [0, 3, 4])] k).getD [], fun k => (look [] k).getD [], fun k => (look [(3, [3])] k).getD [], runL [laws_toBoolS_l3_e]⟩
theorem laws_toBoolS_l3_ok (k_ : Nat) : ∀ (a0 : List V) (i4 : Int) (r0 : List V), Agr id (fun r_ => pick (0) 0 [((Ex.exit 0), (⟨[(3, (V.sl 0 t_bool 0 none))], [(0, some (Blk.row t_bool true r_))], 1, []⟩ : St))]) (laws_toBoolS_l3 k_ a0 i4 r0) (rounds laws_toBoolS_c laws_toBoolS_L ((loopsIn (bodyOf Try.f44)).getD 0 .skip) k_ (⟨[(0, (V.inl t_bool a0)), (3, (V.sl 0 t_bool 0 none)), (4, (V.int .i64 i4))], [(0, some (Blk.row t_bool true r0))], 1, []⟩ : St)) := by
  induction k_ with
  | zero => intros; exact agr_none
  | succ k_ ih =>
    intro a0 i4 r0
    have h : rounds laws_toBoolS_c laws_toBoolS_L ((loopsIn (bodyOf Try.f44)).getD 0 .skip) (k_ + 1) (⟨[(0, (V.inl t_bool a0)), (3, (V.sl 0 t_bool 0 none)), (4, (V.int .i64 i4))], [(0, some (Blk.row t_bool true r0))], 1, []⟩ : St) = (bif (decide (i4 < ((a0.length : Nat) : Int))) then bif (idxOk i4 a0.length) then bif (idxOk i4 r0.length) then rounds laws_toBoolS_c laws_toBoolS_L ((loopsIn (bodyOf Try.f44)).getD 0 .skip) k_ (⟨[(0, (V.inl t_bool a0)), (3, (V.sl 0 t_bool 0 none)), (4, (V.int .i64 (IntKind.i64.wrap (i4 + 1))))], [(0, some (Blk.row t_bool true (r0.set (0 + i4.toNat) (V.bool (gb (rd a0 i4.toNat) 0)))))], 1, []⟩ : St) else none else none else some ((Ex.exit 0), (⟨[(3, (V.sl 0 t_bool 0 none))], [(0, some (Blk.row t_bool true r0))], 1, []⟩ : St))) := by kernel_rfl
    rw [h, laws_toBoolS_l3]
    clear h
    repeat' (first | exact agr_none | refine agr_if ?_ ?_ | refine agr_call fun _ => ?_ | refine agr_let fun _ => ?_ | exact agr_leaf (by kernel_rfl) | exact ih _ _ _)
theorem laws_toBoolS_lo : LoopsOk laws_toBoolS_c laws_toBoolS_L (bodyOf Try.f44) := by
  refine GoodAll.ok (l := [laws_toBoolS_l3_e]) ?_ rfl
  refine GoodAll.cons 0 (by kernel_rfl) ?_ ?_
  · exact good_of (key := 3) (ss := ⟨[(0, (.one (.inl t_bool))), (3, (.one (.sl 0 t_bool))), (4, (.one (.int .i64)))], [(.row t_bool true)], 1, []⟩) (F := fun st => laws_toBoolS_l3 ((((((sv st 0).L).length : Nat) : Int) - ((sv st 2).I)).toNat + 1) ((sv st 0).L) ((sv st 2).I) (br st 0)) (ix := fun r_ => 0) (ps := fun r_ => [((Ex.exit 0), (⟨[(3, (V.sl 0 t_bool 0 none))], [(0, some (Blk.row t_bool true r_))], 1, []⟩ : St))]) (fun st => (((((sv st 0).L).length : Nat) : Int) - ((sv st 2).I)).toNat + 1) fun st h => by
      have q := laws_toBoolS_l3_ok ((((((sv st 0).L).length : Nat) : Int) - ((sv st 2).I)).toNat + 1) ((sv st 0).L) ((sv st 2).I) (br st 0)
      rw [show (⟨[(0, (V.inl t_bool ((sv st 0).L))), (3, (V.sl 0 t_bool 0 none)), (4, (V.int .i64 ((sv st 2).I)))], [(0, some (Blk.row t_bool true (br st 0)))], 1, []⟩ : St) = st from h] at q
      exact q
  exact GoodAll.nil
def laws_toBoolS_sh (r_ : List V) : V × List V := ((V.rr t_bool true r_), [])
theorem laws_toBoolS_e (a : List V) : Agr (wkF [[(.rr t_bool true)]] []) laws_toBoolS_sh (laws_toBoolS a) (evalFn laws_toBoolS_c laws_toBoolS_L Try.f44 [(V.inl t_bool a)]) := by
  have h : evalFn laws_toBoolS_c laws_toBoolS_L Try.f44 [(V.inl t_bool a)] = (bif (((decide ((0 : Int) ≤ ((a.length : Nat) : Int))) && decide (((a.length : Nat) : Int) = ((a.length : Nat) : Int))) && (roomy (((a.length : Nat) : Int).toNat) 1)) then rcall (laws_toBoolS_l3 ((((a.length : Nat) : Int) - 0).toNat + 1) a 0 (List.replicate (((a.length : Nat) : Int).toNat) (V.bool false))) fun r12 => some ((V.rr t_bool true r12), []) else none) := by kernel_rfl
  rw [h, laws_toBoolS]
  clear h
  repeat' (first | exact agr_none | refine agr_if ?_ ?_ | refine agr_call fun _ => ?_ | refine agr_let fun _ => ?_ | exact agr_leaf (by kernel_rfl))
def laws_toBoolS_s (args : List V) : Option (Bool × (V × List V)) := bif argsOk [(.one (.inl t_bool))] args then some ((laws_toBoolS ((rd args 0).L)).isSome, laws_toBoolS_sh ((laws_toBoolS ((rd args 0).L)).getD default)) else none
theorem laws_toBoolS_s_ok : ∀ args r, laws_toBoolS_s args = some (true, r) → SumOk Try.prog tab 44 args r :=
  Base.sum (cfg := laws_toBoolS_c) (F := fun args => laws_toBoolS ((rd args 0).L)) (shr := laws_toBoolS_sh) base laws_toBoolS_c_ok Try.func44 (by kernel_rfl) laws_toBoolS_lo [(.one (.inl t_bool))] (by kernel_rfl) [[(.rr t_bool true)]] [] (by kernel_rfl) fun args h => by
    have q := laws_toBoolS_e ((rd args 0).L)
    rw [show [(V.inl t_bool ((rd args 0).L))] = args from h] at q
    exact q
def laws_toIntS_c : Cfg := ⟨tab, sumsOf [], fun _ => false, fun f => (look [] f).getD [], false⟩
theorem laws_toIntS_c_ok : SumsOk Try.prog tab laws_toIntS_c.sums := sums_nil
def laws_toIntS_l3_e : LE := ⟨3, ⟨[(0, (.one (.inl t_int'))), (3, (.one (.sl 0 t_int'))), (4, (.one (.int .i64)))], [(.row t_int' true)], 1, []⟩, fun st => Out.tst (laws_toIntS_l3 ((((((sv st 0).L).length : Nat) : Int) - ((sv st 2).I)).toNat + 1) ((sv st 0).L) ((sv st 2).I) (br st 0)).isSome (brs ((fun r_ => 0) ((laws_toIntS_l3 ((((((sv st 0).L).length : Nat) : Int) - ((sv st 2).I)).toNat + 1) ((sv st 0).L) ((sv st 2).I) (br st 0)).getD default)) 0 ((fun r_ => [((Ex.exit 0), (⟨[(3, (V.sl 0 t_int' 0 none))], [(0, some (Blk.row t_int' true r_))], 1, []⟩ : St))]) ((laws_toIntS_l3 ((((((sv st 0).L).length : Nat) : Int) - ((sv st 2).I)).toNat + 1) ((sv st 0).L) ((sv st 2).I) (br st 0)).getD default)))⟩
def laws_toIntS_L : Loops := ⟨fun k => (look [(3, [0, 3, 4])] k).getD [], fun k => (look [] k).getD [], fun k => (look [(3, [3])] k).getD [], runL [laws_toIntS_l3_e]⟩
theorem laws_toIntS_l3_ok (k_ : Nat) : ∀ (a0 : List V) (i4 : Int) (r0 : List V), Agr id (fun r_ => pick (0) 0 [((Ex.exit 0), (⟨[(3, (V.sl 0 t_int' 0 none))], [(0, some (Blk.row t_int' true r_))], 1, []⟩ : St))]) (laws_toIntS_l3 k_ a0 i4 r0) (rounds laws_toIntS_c laws_toIntS_L ((loopsIn (bodyOf Try.f45)).getD 0 .skip) k_ (⟨[(0, (V.inl t_int' a0)), (3, (V.sl 0 t_int' 0 none)), (4, (V.int .i64 i4))], [(0, some (Blk.row t_int' true r0))], 1, []⟩ : St)) := by
  induction k_ with
  | zero => intros; exact agr_none
  | succ k_ ih =>
    intro a0 i4 r0
    have h : rounds laws_toIntS_c laws_toIntS_L ((loopsIn (bodyOf Try.f45)).getD 0 .skip) (k_ + 1) (⟨[(0, (V.inl t_int' a0)), (3, (V.sl 0 t_int' 0 none)), (4, (V.int .i64 i4))], [(0, some (Blk.row t_int' true r0))], 1, []⟩ : St) = (bif (decide (i4 < ((a0.length : Nat) : Int))) then bif (idxOk i4 a0.length) then bif (idxOk i4 r0.length) then rounds laws_toIntS_c laws_toIntS_L ((loopsIn (bodyOf Try.f45)).getD 0 .skip) k_ (⟨[(0, (V.inl t_int' a0)), (3, (V.sl 0 t_int' 0 none)), (4, (V.int .i64 (IntKind.i64.wrap (i4 + 1))))], [(0, some (Blk.row t_int' true (r0.set (0 + i4.toNat) (V.int .i64 (gi (rd a0 i4.toNat) 0)))))], 1, []⟩ : St) else none else none else some ((Ex.exit 0), (⟨[(3, (V.sl 0 t_int' 0 none))], [(0, some (Blk.row t_int' true r0))], 1, []⟩ : St))) := by kernel_rfl
    rw [h, laws_toIntS_l3]
    clear h
    repeat' (first | exact agr_none | refine agr_if ?_ ?_ | refine agr_call fun _ => ?_ | refine agr_let fun _ => ?_ | exact agr_leaf (by kernel_rfl) | exact ih _ _ _)
theorem laws_toIntS_lo : LoopsOk laws_toIntS_c laws_toIntS_L (bodyOf Try.f45) := by
  refine GoodAll.ok (l := [laws_toIntS_l3_e]) ?_ rfl
  refine GoodAll.cons 0 (by kernel_rfl) ?_ ?_
  · exact good_of (key := 3) (ss := ⟨[(0, (.one (.inl t_int'))), (3, (.one (.sl 0 t_int'))), (4, (.one (.int .i64)))], [(.row t_int' true)], 1, []⟩) (F := fun st => laws_toIntS_l3 ((((((sv st 0).L).length : Nat) : Int) - ((sv st 2).I)).toNat + 1) ((sv st 0).L) ((sv st 2).I) (br st 0)) (ix := fun r_ => 0) (ps := fun r_ => [((Ex.exit 0), (⟨[(3, (V.sl 0 t_int' 0 none))], [(0, some (Blk.row t_int' true r_))], 1, []⟩ : St))]) (fun st => (((((sv st 0).L).length : Nat) : Int) - ((sv st 2).I)).toNat + 1) fun st h => by
      have q := laws_toIntS_l3_ok ((((((sv st 0).L).length : Nat) : Int) - ((sv st 2).I)).toNat + 1) ((sv st 0).L) ((sv st 2).I) (br st 0)
      rw [show (⟨[(0, (V.inl t_int' ((sv st 0).L))), (3, (V.sl 0 t_int' 0 none)), (4, (V.int .i64 ((sv st 2).I)))], [(0, some (Blk.row t_int' true (br st 0)))], 1, []⟩ : St) = st from h] at q
      exact q
  exact GoodAll.nil
def laws_toIntS_sh (r_ : List V) : V × List V := ((V.rr t_int' true r_), [])
theorem laws_toIntS_e (a : List V) : Agr (wkF [[(.rr t_int' true)]] []) laws_toIntS_sh (laws_toIntS a) (evalFn laws_toIntS_c laws_toIntS_L Try.f45 [(V.inl t_int' a)]) := by
  have h : evalFn laws_toIntS_c laws_toIntS_L Try.f45 [(V.inl t_int' a)] = (bif (((decide ((0 : Int) ≤ ((a.length : Nat) : Int))) && decide (((a.length : Nat) : Int) = ((a.length : Nat) : Int))) && (roomy (((a.length : Nat) : Int).toNat) 8)) then rcall (laws_toIntS_l3 ((((a.length : Nat) : Int) - 0).toNat + 1) a 0 (List.replicate (((a.length : Nat) : Int).toNat) (V.int .i64 0))) fun r14 => some ((V.rr t_int' true r14), []) else none) := by kernel_rfl
  rw [h, laws_toIntS]
  clear h
  repeat' (first | exact agr_none | refine agr_if ?_ ?_ | refine agr_call fun _ => ?_ | refine agr_let fun _ => ?_ | exact agr_leaf (by kernel_rfl))
def laws_toIntS_s (args : List V) : Option (Bool × (V × List V)) := bif argsOk [(.one (.inl t_int'))] args then some ((laws_toIntS ((rd args 0).L)).isSome, laws_toIntS_sh ((laws_toIntS ((rd args 0).L)).getD default)) else none
theorem laws_toIntS_s_ok : ∀ args r, laws_toIntS_s args = some (true, r) → SumOk Try.prog tab 45 args r :=
  Base.sum (cfg := laws_toIntS_c) (F := fun args => laws_toIntS ((rd args 0).L)) (shr := laws_toIntS_sh) base laws_toIntS_c_ok Try.func45 (by kernel_rfl) laws_toIntS_lo [(.one (.inl t_int'))] (by kernel_rfl) [[(.rr t_int' true)]] [] (by kernel_rfl) fun args h => by
    have q := laws_toIntS_e ((rd args 0).L)
    rw [show [(V.inl t_int' ((rd args 0).L))] = args from h] at q
    exact q
def laws_toNode_c : Cfg := ⟨tab, sumsOf [(43, laws_toItemS_s), (44, laws_toBoolS_s), (45, laws_toIntS_s)], fun _ => false, fun f => (look [(43, [some t_laws_Item]), (44, [some t_bool]), (45, [some t_int'])] f).getD [], false⟩
theorem laws_toNode_c_ok : SumsOk Try.prog tab laws_toNode_c.sums := sums_cons f43_en laws_toItemS_s_ok (sums_cons f44_en laws_toBoolS_s_ok (sums_cons f45_en laws_toIntS_s_ok (sums_nil)))
def laws_toNode_L : Loops := ⟨fun k => (look [] k).getD [], fun k => (look [] k).getD [], fun k => (look [] k).getD [], runL []⟩
def laws_toNode_sh (r_ : V) : V × List V := ((V.agg [(V.int .i64 (gi r_ 0)), (V.int .i64 (gi r_ 1)), (V.int .i64 (gi r_ 2)), (V.rr t_impl_Item true (gl r_ 3)), (V.int .i64 (gi r_ 4)), (V.int .i64 (gi r_ 5)), (V.int .i64 (gi r_ 6)), (V.int .i64 (gi r_ 7)), (V.rr t_bool true (gl r_ 8)), (V.rr t_int' true (gl r_ 9)), (V.rr t_int' true (gl r_ 10))]), [])
theorem laws_toNode_e (a : V) : Agr (wkF [[.dead, .dead, .dead, (.rr t_impl_Item true), .dead, .dead, .dead, .dead, (.rr t_bool true), (.rr t_int' true), (.rr t_int' true)]] []) laws_toNode_sh (laws_toNode a) (evalFn laws_toNode_c laws_toNode_L Try.f10 [(n_laws_Node a)]) := by
  have h : evalFn laws_toNode_c laws_toNode_L Try.f10 [(n_laws_Node a)] = (rcall (laws_toItemS (gl a 3)) fun r11 => rcall (laws_toBoolS (gl a 8)) fun r13 => rcall (laws_toIntS (gl a 9)) fun r15 => rcall (laws_toIntS (gl a 10)) fun r16 => some ((V.agg [(V.int .i64 (gi a 0)), (V.int .i64 (gi a 1)), (V.int .i64 (gi a 2)), (V.rr t_impl_Item true r11), (V.int .i64 (gi a 4)), (V.int .i64 (gi a 5)), (V.int .i64 (gi a 6)), (V.int .i64 (gi a 7)), (V.rr t_bool true r13), (V.rr t_int' true r15), (V.rr t_int' true r16)]), [])) := by kernel_rfl
  rw [h, laws_toNode]
  clear h
  repeat' (first | exact agr_none | refine agr_if ?_ ?_ | refine agr_call fun _ => ?_ | refine agr_let fun _ => ?_ | exact agr_leaf (by kernel_rfl))
def laws_toNode_s (args : List V) : Option (Bool × (V × List V)) := bif argsOk [(.agg [(.int .i64), (.int .i64), (.int .i64), (.inl t_laws_Item), (.int .i64), (.int .i64), (.int .i64), (.int .i64), (.inl t_bool), (.inl t_int'), (.inl t_int')])] args then some ((laws_toNode (rd args 0)).isSome, laws_toNode_sh ((laws_toNode (rd args 0)).getD default)) else none
theorem laws_toNode_s_ok : ∀ args r, laws_toNode_s args = some (true, r) → SumOk Try.prog tab 10 args r :=
  Base.sum (cfg := laws_toNode_c) (F := fun args => laws_toNode (rd args 0)) (shr := laws_toNode_sh) base laws_toNode_c_ok Try.func10 (by kernel_rfl) (GoodAll.ok (l := []) GoodAll.nil rfl) [(.agg [(.int .i64), (.int .i64), (.int .i64), (.inl t_laws_Item), (.int .i64), (.int .i64), (.int .i64), (.int .i64), (.inl t_bool), (.inl t_int'), (.inl t_int')])] (by kernel_rfl) [[.dead, .dead, .dead, (.rr t_impl_Item true), .dead, .dead, .dead, .dead, (.rr t_bool true), (.rr t_int' true), (.rr t_int' true)]] [] (by kernel_rfl) fun args h => by
    have q := laws_toNode_e (rd args 0)
    rw [show [(n_laws_Node (rd args 0))] = args from h] at q
    exact q
def spec_l4servers_c : Cfg := ⟨tab, sumsOf [], fun _ => false, fun f => (look [] f).getD [], false⟩
theorem spec_l4servers_c_ok : SumsOk Try.prog tab spec_l4servers_c.sums := sums_nil
def spec_l4servers_L : Loops := ⟨fun k => (look [] k).getD [], fun k => (look [] k).getD [], fun k => (look [] k).getD [], runL []⟩
def spec_l4servers_sh (r_ : Bool) : V × List V := ((V.bool r_), [])
theorem spec_l4servers_e (n : Int) : Tot (wkF [[.dead]] []) spec_l4servers_sh (spec_l4servers n) (evalFn spec_l4servers_c spec_l4servers_L Try.f83 [(V.int .i64 n)]) := by
  have h : evalFn spec_l4servers_c spec_l4servers_L Try.f83 [(V.int .i64 n)] = (bif (decide ((1 : Int) ≤ n)) then some ((V.bool (decide (n ≤ 5))), []) else some ((V.bool false), [])) := by kernel_rfl
  rw [h, spec_l4servers]
  clear h
  repeat' (first | refine tot_if ?_ ?_ | refine tot_let fun _ => ?_ | exact tot_leaf (by kernel_rfl))
def spec_l4servers_s (args : List V) : Option (Bool × (V × List V)) := bif argsOk [(.one (.int .i64))] args then some (true, spec_l4servers_sh (spec_l4servers ((rd args 0).I))) else none
theorem spec_l4servers_s_ok : ∀ args r, spec_l4servers_s args = some (true, r) → SumOk Try.prog tab 83 args r :=
  Base.sumT (cfg := spec_l4servers_c) (F := fun args => spec_l4servers ((rd args 0).I)) (shr := spec_l4servers_sh) base spec_l4servers_c_ok Try.func83 (by kernel_rfl) (GoodAll.ok (l := []) GoodAll.nil rfl) [(.one (.int .i64))] (by kernel_rfl) [[.dead]] [] (by kernel_rfl) fun args h => by
    have q := spec_l4servers_e ((rd args 0).I)
    rw [show [(V.int .i64 ((rd args 0).I))] = args from h] at q
    exact q
def spec_l3term_c : Cfg := ⟨tab, sumsOf [], fun _ => false, fun f => (look [] f).getD [], false⟩
theorem spec_l3term_c_ok : SumsOk Try.prog tab spec_l3term_c.sums := sums_nil
def spec_l3term_L : Loops := ⟨fun k => (look [] k).getD [], fun k => (look [] k).getD [], fun k => (look [] k).getD [], runL []⟩
def spec_l3term_sh (r_ : Bool) : V × List V := ((V.bool r_), [])
theorem spec_l3term_e (n : Int) : Tot (wkF [[.dead]] []) spec_l3term_sh (spec_l3term n) (evalFn spec_l3term_c spec_l3term_L Try.f84 [(V.int .i64 n)]) := by
  have h : evalFn spec_l3term_c spec_l3term_L Try.f84 [(V.int .i64 n)] = (bif (decide ((0 : Int) ≤ n)) then some ((V.bool (decide (n ≤ 100000))), []) else some ((V.bool false), [])) := by kernel_rfl
  rw [h, spec_l3term]
  clear h
  repeat' (first | refine tot_if ?_ ?_ | refine tot_let fun _ => ?_ | exact tot_leaf (by kernel_rfl))
def spec_l3term_s (args : List V) : Option (Bool × (V × List V)) := bif argsOk [(.one (.int .i64))] args then some (true, spec_l3term_sh (spec_l3term ((rd args 0).I))) else none
theorem spec_l3term_s_ok : ∀ args r, spec_l3term_s args = some (true, r) → SumOk Try.prog tab 84 args r :=
  Base.sumT (cfg := spec_l3term_c) (F := fun args => spec_l3term ((rd args 0).I)) (shr := spec_l3term_sh) base spec_l3term_c_ok Try.func84 (by kernel_rfl) (GoodAll.ok (l := []) GoodAll.nil rfl) [(.one (.int .i64))] (by kernel_rfl) [[.dead]] [] (by kernel_rfl) fun args h => by
    have q := spec_l3term_e ((rd args 0).I)
    rw [show [(V.int .i64 ((rd args 0).I))] = args from h] at q
    exact q
def spec_l4who_c : Cfg := ⟨tab, sumsOf [], fun _ => false, fun f => (look [] f).getD [], false⟩
theorem spec_l4who_c_ok : SumsOk Try.prog tab spec_l4who_c.sums := sums_nil
def spec_l4who_L : Loops := ⟨fun k => (look [] k).getD [], fun k => (look [] k).getD [], fun k => (look [] k).getD [], runL []⟩
def spec_l4who_sh (r_ : Bool) : V × List V := ((V.bool r_), [])
theorem spec_l4who_e (n : Int) (servers : Int) : Tot (wkF [[.dead]] []) spec_l4who_sh (spec_l4who n servers) (evalFn spec_l4who_c spec_l4who_L Try.f85 [(V.int .i64 n), (V.int .i64 servers)]) := by
  have h : evalFn spec_l4who_c spec_l4who_L Try.f85 [(V.int .i64 n), (V.int .i64 servers)] = (bif (decide ((-1 : Int) ≤ n)) then some ((V.bool (decide (n < servers))), []) else some ((V.bool false), [])) := by kernel_rfl
  rw [h, spec_l4who]
  clear h
  repeat' (first | refine tot_if ?_ ?_ | refine tot_let fun _ => ?_ | exact tot_leaf (by kernel_rfl))
def spec_l4who_s (args : List V) : Option (Bool × (V × List V)) := bif argsOk [(.one (.int .i64)), (.one (.int .i64))] args then some (true, spec_l4who_sh (spec_l4who ((rd args 0).I) ((rd args 1).I))) else none
theorem spec_l4who_s_ok : ∀ args r, spec_l4who_s args = some (true, r) → SumOk Try.prog tab 85 args r :=
  Base.sumT (cfg := spec_l4who_c) (F := fun args => spec_l4who ((rd args 0).I) ((rd args 1).I)) (shr := spec_l4who_sh) base spec_l4who_c_ok Try.func85 (by kernel_rfl) (GoodAll.ok (l := []) GoodAll.nil rfl) [(.one (.int .i64)), (.one (.int .i64))] (by kernel_rfl) [[.dead]] [] (by kernel_rfl) fun args h => by
    have q := spec_l4who_e ((rd args 0).I) ((rd args 1).I)
    rw [show [(V.int .i64 ((rd args 0).I)), (V.int .i64 ((rd args 1).I))] = args from h] at q
    exact q
def spec_l2val_c : Cfg := ⟨tab, sumsOf [], fun _ => false, fun f => (look [] f).getD [], false⟩
theorem spec_l2val_c_ok : SumsOk Try.prog tab spec_l2val_c.sums := sums_nil
def spec_l2val_L : Loops := ⟨fun k => (look [] k).getD [], fun k => (look [] k).getD [], fun k => (look [] k).getD [], runL []⟩
def spec_l2val_sh (r_ : Bool) : V × List V := ((V.bool r_), [])
theorem spec_l2val_e (b : List V) : Tot (wkF [[.dead]] []) spec_l2val_sh (spec_l2val b) (evalFn spec_l2val_c spec_l2val_L Try.f133 [(V.inl t_byte b)]) := by
  have h : evalFn spec_l2val_c spec_l2val_L Try.f133 [(V.inl t_byte b)] = (some ((V.bool (decide (((b.length : Nat) : Int) ≤ 20))), [])) := by kernel_rfl
  rw [h, spec_l2val]
  clear h
  repeat' (first | refine tot_if ?_ ?_ | refine tot_let fun _ => ?_ | exact tot_leaf (by kernel_rfl))
def spec_l2val_s (args : List V) : Option (Bool × (V × List V)) := bif argsOk [(.one (.inl t_byte))] args then some (true, spec_l2val_sh (spec_l2val ((rd args 0).L))) else none
theorem spec_l2val_s_ok : ∀ args r, spec_l2val_s args = some (true, r) → SumOk Try.prog tab 133 args r :=
  Base.sumT (cfg := spec_l2val_c) (F := fun args => spec_l2val ((rd args 0).L)) (shr := spec_l2val_sh) base spec_l2val_c_ok Try.func133 (by kernel_rfl) (GoodAll.ok (l := []) GoodAll.nil rfl) [(.one (.inl t_byte))] (by kernel_rfl) [[.dead]] [] (by kernel_rfl) fun args h => by
    have q := spec_l2val_e ((rd args 0).L)
    rw [show [(V.inl t_byte ((rd args 0).L))] = args from h] at q
    exact q
def spec_l2index_c : Cfg := ⟨tab, sumsOf [], fun _ => false, fun f => (look [] f).getD [], false⟩
theorem spec_l2index_c_ok : SumsOk Try.prog tab spec_l2index_c.sums := sums_nil
def spec_l2index_L : Loops := ⟨fun k => (look [] k).getD [], fun k => (look [] k).getD [], fun k => (look [] k).getD [], runL []⟩
def spec_l2index_sh (r_ : Bool) : V × List V := ((V.bool r_), [])
theorem spec_l2index_e (n : Int) : Tot (wkF [[.dead]] []) spec_l2index_sh (spec_l2index n) (evalFn spec_l2index_c spec_l2index_L Try.f134 [(V.int .i64 n)]) := by
  have h : evalFn spec_l2index_c spec_l2index_L Try.f134 [(V.int .i64 n)] = (bif (decide ((0 : Int) ≤ n)) then some ((V.bool (decide (n ≤ 1000000))), []) else some ((V.bool false), [])) := by kernel_rfl
  rw [h, spec_l2index]
  clear h
  repeat' (first | refine tot_if ?_ ?_ | refine tot_let fun _ => ?_ | exact tot_leaf (by kernel_rfl))
def spec_l2index_s (args : List V) : Option (Bool × (V × List V)) := bif argsOk [(.one (.int .i64))] args then some (true, spec_l2index_sh (spec_l2index ((rd args 0).I))) else none
theorem spec_l2index_s_ok : ∀ args r, spec_l2index_s args = some (true, r) → SumOk Try.prog tab 134 args r :=
  Base.sumT (cfg := spec_l2index_c) (F := fun args => spec_l2index ((rd args 0).I)) (shr := spec_l2index_sh) base spec_l2index_c_ok Try.func134 (by kernel_rfl) (GoodAll.ok (l := []) GoodAll.nil rfl) [(.one (.int .i64))] (by kernel_rfl) [[.dead]] [] (by kernel_rfl) fun args h => by
    have q := spec_l2index_e ((rd args 0).I)
    rw [show [(V.int .i64 ((rd args 0).I))] = args from h] at q
    exact q
def spec_l2key_c : Cfg := ⟨tab, sumsOf [], fun _ => false, fun f => (look [] f).getD [], false⟩
theorem spec_l2key_c_ok : SumsOk Try.prog tab spec_l2key_c.sums := sums_nil
def spec_l2key_l4_e : LE := ⟨4, ⟨[(0, (.one (.inl t_byte))), (3, (.one (.int .i64)))], [], 0, []⟩, fun st => Out.tst (spec_l2key_l4 ((((((sv st 0).L).length : Nat) : Int) - ((sv st 1).I)).toNat + 1) ((sv st 0).L) ((sv st 1).I)).isSome (brs ((fun r_ => r_.1) ((spec_l2key_l4 ((((((sv st 0).L).length : Nat) : Int) - ((sv st 1).I)).toNat + 1) ((sv st 0).L) ((sv st 1).I)).getD default)) 0 ((fun r_ => [(Ex.ret, (⟨[(2, (V.bool r_.2))], [], 0, []⟩ : St)), ((Ex.exit 0), (⟨[(2, V.dead)], [], 0, []⟩ : St))]) ((spec_l2key_l4 ((((((sv st 0).L).length : Nat) : Int) - ((sv st 1).I)).toNat + 1) ((sv st 0).L) ((sv st 1).I)).getD default)))⟩
def spec_l2key_L : Loops := ⟨fun k => (look [(4, [0, 3])] k).getD [], fun k => (look [] k).getD [], fun k => (look [(4, [2])] k).getD [], runL [spec_l2key_l4_e]⟩
set_option maxRecDepth 100000 in
theorem spec_l2key_l4_ok (k_ : Nat) : ∀ (b0 : List V) (i3 : Int), Agr id (fun r_ => pick (r_.1) 0 [(Ex.ret, (⟨[(2, (V.bool r_.2))], [], 0, []⟩ : St)), ((Ex.exit 0), (⟨[(2, V.dead)], [], 0, []⟩ : St))]) (spec_l2key_l4 k_ b0 i3) (rounds spec_l2key_c spec_l2key_L ((loopsIn (bodyOf Try.f135)).getD 0 .skip) k_ (⟨[(0, (V.inl t_byte b0)), (3, (V.int .i64 i3))], [], 0, []⟩ : St)) := by
  induction k_ with
  | zero => intros; exact agr_none
  | succ k_ ih =>
    intro b0 i3
    have h : rounds spec_l2key_c spec_l2key_L ((loopsIn (bodyOf Try.f135)).getD 0 .skip) (k_ + 1) (⟨[(0, (V.inl t_byte b0)), (3, (V.int .i64 i3))], [], 0, []⟩ : St) = (bif (decide (i3 < ((b0.length : Nat) : Int))) then bif (idxOk i3 b0.length) then bif (decide ((gi (rd b0 i3.toNat) 0) < 97)) then bif (idxOk i3 b0.length) then bif (!(decide ((gi (rd b0 i3.toNat) 0) = 47))) then some (Ex.ret, (⟨[(2, (V.bool false))], [], 0, []⟩ : St)) else rounds spec_l2key_c spec_l2key_L ((loopsIn (bodyOf Try.f135)).getD 0 .skip) k_ (⟨[(0, (V.inl t_byte b0)), (3, (V.int .i64 (IntKind.i64.wrap (i3 + 1))))], [], 0, []⟩ : St) else none else bif (idxOk i3 b0.length) then bif (decide ((122 : Int) < (gi (rd b0 i3.toNat) 0))) then bif (idxOk i3 b0.length) then bif (!(decide ((gi (rd b0 i3.toNat) 0) = 47))) then some (Ex.ret, (⟨[(2, (V.bool false))], [], 0, []⟩ : St)) else rounds spec_l2key_c spec_l2key_L ((loopsIn (bodyOf Try.f135)).getD 0 .skip) k_ (⟨[(0, (V.inl t_byte b0)), (3, (V.int .i64 (IntKind.i64.wrap (i3 + 1))))], [], 0, []⟩ : St) else none else rounds spec_l2key_c spec_l2key_L ((loopsIn (bodyOf Try.f135)).getD 0 .skip) k_ (⟨[(0, (V.inl t_byte b0)), (3, (V.int .i64 (IntKind.i64.wrap (i3 + 1))))], [], 0, []⟩ : St) else none else none else some ((Ex.exit 0), (⟨[(2, V.dead)], [], 0, []⟩ : St))) := by kernel_rfl
    rw [h, spec_l2key_l4]
    clear h
    repeat' (first | exact agr_none | refine agr_if ?_ ?_ | refine agr_call fun _ => ?_ | refine agr_let fun _ => ?_ | exact agr_leaf (by kernel_rfl) | exact ih _ _)
theorem spec_l2key_lo : LoopsOk spec_l2key_c spec_l2key_L (bodyOf Try.f135) := by
  refine GoodAll.ok (l := [spec_l2key_l4_e]) ?_ rfl
  refine GoodAll.cons 0 (by kernel_rfl) ?_ ?_
  · exact good_of (key := 4) (ss := ⟨[(0, (.one (.inl t_byte))), (3, (.one (.int .i64)))], [], 0, []⟩) (F := fun st => spec_l2key_l4 ((((((sv st 0).L).length : Nat) : Int) - ((sv st 1).I)).toNat + 1) ((sv st 0).L) ((sv st 1).I)) (ix := fun r_ => r_.1) (ps := fun r_ => [(Ex.ret, (⟨[(2, (V.bool r_.2))], [], 0, []⟩ : St)), ((Ex.exit 0), (⟨[(2, V.dead)], [], 0, []⟩ : St))]) (fun st => (((((sv st 0).L).length : Nat) : Int) - ((sv st 1).I)).toNat + 1) fun st h => by
      have q := spec_l2key_l4_ok ((((((sv st 0).L).length : Nat) : Int) - ((sv st 1).I)).toNat + 1) ((sv st 0).L) ((sv st 1).I)
      rw [show (⟨[(0, (V.inl t_byte ((sv st 0).L))), (3, (V.int .i64 ((sv st 1).I)))], [], 0, []⟩ : St) = st from h] at q
      exact q
  exact GoodAll.nil
def spec_l2key_sh (r_ : Bool) : V × List V := ((V.bool r_), [])
theorem spec_l2key_e (b : List V) : Agr (wkF [[.dead]] []) spec_l2key_sh (spec_l2key b) (evalFn spec_l2key_c spec_l2key_L Try.f135 [(V.inl t_byte b)]) := by
  have h : evalFn spec_l2key_c spec_l2key_L Try.f135 [(V.inl t_byte b)] = (bif (decide (((b.length : Nat) : Int) < 1)) then some ((V.bool false), []) else bif (decide ((20 : Int) < ((b.length : Nat) : Int))) then some ((V.bool false), []) else rcall (spec_l2key_l4 ((((b.length : Nat) : Int) - 0).toNat + 1) b 0) fun r18 => bif (Nat.beq r18.1 0) then some ((V.bool r18.2), []) else some ((V.bool true), [])) := by kernel_rfl
  rw [h, spec_l2key]
  clear h
  repeat' (first | exact agr_none | refine agr_if ?_ ?_ | refine agr_call fun _ => ?_ | refine agr_let fun _ => ?_ | exact agr_leaf (by kernel_rfl))
def spec_l2key_s (args : List V) : Option (Bool × (V × List V)) := bif argsOk [(.one (.inl t_byte))] args then some ((spec_l2key ((rd args 0).L)).isSome, spec_l2key_sh ((spec_l2key ((rd args 0).L)).getD default)) else none
theorem spec_l2key_s_ok : ∀ args r, spec_l2key_s args = some (true, r) → SumOk Try.prog tab 135 args r :=
  Base.sum (cfg := spec_l2key_c) (F := fun args => spec_l2key ((rd args 0).L)) (shr := spec_l2key_sh) base spec_l2key_c_ok Try.func135 (by kernel_rfl) spec_l2key_lo [(.one (.inl t_byte))] (by kernel_rfl) [[.dead]] [] (by kernel_rfl) fun args h => by
    have q := spec_l2key_e ((rd args 0).L)
    rw [show [(V.inl t_byte ((rd args 0).L))] = args from h] at q
    exact q
end Go.Eng.R
open Go Go.Eng Go.Proofs
namespace Go.Eng.R
def spec_OpOk_c : Cfg := ⟨tab, sumsOf [(133, spec_l2val_s), (134, spec_l2index_s), (135, spec_l2key_s)], fun _ => false, fun f => (look [(133, [some t_byte]), (134, [none]), (135, [some t_byte])] f).getD [], false⟩
theorem spec_OpOk_c_ok : SumsOk Try.prog tab spec_OpOk_c.sums := sums_cons f133_en spec_l2val_s_ok (sums_cons f134_en spec_l2index_s_ok (sums_cons f135_en spec_l2key_s_ok (sums_nil)))
def spec_OpOk_L : Loops := ⟨fun k => (look [] k).getD [], fun k => (look [] k).getD [], fun k => (look [] k).getD [], runL []⟩
def spec_OpOk_sh (r_ : Bool) : V × List V := ((V.bool r_), [])
set_option maxRecDepth 100000 in
theorem spec_OpOk_e (o : V) : Agr (wkF [[.dead]] []) spec_OpOk_sh (spec_OpOk o) (evalFn spec_OpOk_c spec_OpOk_L Try.f105 [(n_laws_Op o)]) := by
  have h : evalFn spec_OpOk_c spec_OpOk_L Try.f105 [(n_laws_Op o)] = (bif (decide ((gi o 0) < 0)) then some ((V.bool false), []) else bif (decide ((7 : Int) < (gi o 0))) then some ((V.bool false), []) else bif (!(spec_l2val (gl o 2))) then some ((V.bool false), []) else bif (!(spec_l2index (gi o 3))) then some ((V.bool false), []) else bif (decide ((gi o 0) = 1)) then rcall (spec_l2key (gl o 1)) fun r19 => bif (!r19) then some ((V.bool false), []) else bif (decide ((gi o 0) = 1)) then bif (decide ((gi o 0) = 0)) then some ((V.bool (decide ((gi o 3) = 0))), []) else bif (decide ((gi o 0) = 1)) then some ((V.bool (decide ((gi o 3) = 0))), []) else bif (decide ((gi o 0) = 3)) then some ((V.bool (decide ((gi o 3) = 0))), []) else bif (decide ((gi o 0) = 4)) then some ((V.bool (decide ((gi o 3) ≤ 1))), []) else bif (decide ((gi o 0) = 2)) then some ((V.bool true), []) else some ((V.bool (decide ((1 : Int) ≤ (gi o 3)))), []) else bif (decide ((gi o 0) = 2)) then bif (decide ((gi o 0) = 0)) then some ((V.bool (decide ((gi o 3) = 0))), []) else bif (decide ((gi o 0) = 1)) then some ((V.bool (decide ((gi o 3) = 0))), []) else bif (decide ((gi o 0) = 3)) then some ((V.bool (decide ((gi o 3) = 0))), []) else bif (decide ((gi o 0) = 4)) then some ((V.bool (decide ((gi o 3) ≤ 1))), []) else bif (decide ((gi o 0) = 2)) then some ((V.bool true), []) else some ((V.bool (decide ((1 : Int) ≤ (gi o 3)))), []) else bif (!(decide ((gi o 0) = 6))) then bif (decide ((0 : Int) < (((gl o 2).length : Nat) : Int))) then some ((V.bool false), []) else bif (decide ((gi o 0) = 0)) then some ((V.bool (decide ((gi o 3) = 0))), []) else bif (decide ((gi o 0) = 1)) then some ((V.bool (decide ((gi o 3) = 0))), []) else bif (decide ((gi o 0) = 3)) then some ((V.bool (decide ((gi o 3) = 0))), []) else bif (decide ((gi o 0) = 4)) then some ((V.bool (decide ((gi o 3) ≤ 1))), []) else bif (decide ((gi o 0) = 2)) then some ((V.bool true), []) else some ((V.bool (decide ((1 : Int) ≤ (gi o 3)))), []) else bif (decide ((gi o 0) = 0)) then some ((V.bool (decide ((gi o 3) = 0))), []) else bif (decide ((gi o 0) = 1)) then some ((V.bool (decide ((gi o 3) = 0))), []) else bif (decide ((gi o 0) = 3)) then some ((V.bool (decide ((gi o 3) = 0))), []) else bif (decide ((gi o 0) = 4)) then some ((V.bool (decide ((gi o 3) ≤ 1))), []) else bif (decide ((gi o 0) = 2)) then some ((V.bool true), []) else some ((V.bool (decide ((1 : Int) ≤ (gi o 3)))), []) else bif (decide ((gi o 0) = 2)) then rcall (spec_l2key (gl o 1)) fun r20 => bif (!r20) then some ((V.bool false), []) else bif (decide ((gi o 0) = 1)) then bif (decide ((gi o 0) = 0)) then some ((V.bool (decide ((gi o 3) = 0))), []) else bif (decide ((gi o 0) = 1)) then some ((V.bool (decide ((gi o 3) = 0))), []) else bif (decide ((gi o 0) = 3)) then some ((V.bool (decide ((gi o 3) = 0))), []) else bif (decide ((gi o 0) = 4)) then some ((V.bool (decide ((gi o 3) ≤ 1))), []) else bif (decide ((gi o 0) = 2)) then some ((V.bool true), []) else some ((V.bool (decide ((1 : Int) ≤ (gi o 3)))), []) else bif (decide ((gi o 0) = 2)) then bif (decide ((gi o 0) = 0)) then some ((V.bool (decide ((gi o 3) = 0))), []) else bif (decide ((gi o 0) = 1)) then some ((V.bool (decide ((gi o 3) = 0))), []) else bif (decide ((gi o 0) = 3)) then some ((V.bool (decide ((gi o 3) = 0))), []) else bif (decide ((gi o 0) = 4)) then some ((V.bool (decide ((gi o 3) ≤ 1))), []) else bif (decide ((gi o 0) = 2)) then some ((V.bool true), []) else some ((V.bool (decide ((1 : Int) ≤ (gi o 3)))), []) else bif (!(decide ((gi o 0) = 6))) then bif (decide ((0 : Int) < (((gl o 2).length : Nat) : Int))) then some ((V.bool false), []) else bif (decide ((gi o 0) = 0)) then some ((V.bool (decide ((gi o 3) = 0))), []) else bif (decide ((gi o 0) = 1)) then some ((V.bool (decide ((gi o 3) = 0))), []) else bif (decide ((gi o 0) = 3)) then some ((V.bool (decide ((gi o 3) = 0))), []) else bif (decide ((gi o 0) = 4)) then some ((V.bool (decide ((gi o 3) ≤ 1))), []) else bif (decide ((gi o 0) = 2)) then some ((V.bool true), []) else some ((V.bool (decide ((1 : Int) ≤ (gi o 3)))), []) else bif (decide ((gi o 0) = 0)) then some ((V.bool (decide ((gi o 3) = 0))), []) else bif (decide ((gi o 0) = 1)) then some ((V.bool (decide ((gi o 3) = 0))), []) else bif (decide ((gi o 0) = 3)) then some ((V.bool (decide ((gi o 3) = 0))), []) else bif (decide ((gi o 0) = 4)) then some ((V.bool (decide ((gi o 3) ≤ 1))), []) else bif (decide ((gi o 0) = 2)) then some ((V.bool true), []) else some ((V.bool (decide ((1 : Int) ≤ (gi o 3)))), []) else bif (decide ((gi o 0) = 3)) then rcall (spec_l2key (gl o 1)) fun r21 => bif (!r21) then some ((V.bool false), []) else bif (decide ((gi o 0) = 1)) then bif (decide ((gi o 0) = 0)) then some ((V.bool (decide ((gi o 3) = 0))), []) else bif (decide ((gi o 0) = 1)) then some ((V.bool (decide ((gi o 3) = 0))), []) else bif (decide ((gi o 0) = 3)) then some ((V.bool (decide ((gi o 3) = 0))), []) else bif (decide ((gi o 0) = 4)) then some ((V.bool (decide ((gi o 3) ≤ 1))), []) else bif (decide ((gi o 0) = 2)) then some ((V.bool true), []) else some ((V.bool (decide ((1 : Int) ≤ (gi o 3)))), []) else bif (decide ((gi o 0) = 2)) then bif (decide ((gi o 0) = 0)) then some ((V.bool (decide ((gi o 3) = 0))), []) else bif (decide ((gi o 0) = 1)) then some ((V.bool (decide ((gi o 3) = 0))), []) else bif (decide ((gi o 0) = 3)) then some ((V.bool (decide ((gi o 3) = 0))), []) else bif (decide ((gi o 0) = 4)) then some ((V.bool (decide ((gi o 3) ≤ 1))), []) else bif (decide ((gi o 0) = 2)) then some ((V.bool true), []) else some ((V.bool (decide ((1 : Int) ≤ (gi o 3)))), []) else bif (!(decide ((gi o 0) = 6))) then bif (decide ((0 : Int) < (((gl o 2).length : Nat) : Int))) then some ((V.bool false), []) else bif (decide ((gi o 0) = 0)) then some ((V.bool (decide ((gi o 3) = 0))), []) else bif (decide ((gi o 0) = 1)) then some ((V.bool (decide ((gi o 3) = 0))), []) else bif (decide ((gi o 0) = 3)) then some ((V.bool (decide ((gi o 3) = 0))), []) else bif (decide ((gi o 0) = 4)) then some ((V.bool (decide ((gi o 3) ≤ 1))), []) else bif (decide ((gi o 0) = 2)) then some ((V.bool true), []) else some ((V.bool (decide ((1 : Int) ≤ (gi o 3)))), []) else bif (decide ((gi o 0) = 0)) then some ((V.bool (decide ((gi o 3) = 0))), []) else bif (decide ((gi o 0) = 1)) then some ((V.bool (decide ((gi o 3) = 0))), []) else bif (decide ((gi o 0) = 3)) then some ((V.bool (decide ((gi o 3) = 0))), []) else bif (decide ((gi o 0) = 4)) then some ((V.bool (decide ((gi o 3) ≤ 1))), []) else bif (decide ((gi o 0) = 2)) then some ((V.bool true), []) else some ((V.bool (decide ((1 : Int) ≤ (gi o 3)))), []) else bif (decide ((gi o 0) = 6)) then rcall (spec_l2key (gl o 1)) fun r22 => bif (!r22) then some ((V.bool false), []) else bif (decide ((gi o 0) = 1)) then bif (decide ((gi o 0) = 0)) then some ((V.bool (decide ((gi o 3) = 0))), []) else bif (decide ((gi o 0) = 1)) then some ((V.bool (decide ((gi o 3) = 0))), []) else bif (decide ((gi o 0) = 3)) then some ((V.bool (decide ((gi o 3) = 0))), []) else bif (decide ((gi o 0) = 4)) then some ((V.bool (decide ((gi o 3) ≤ 1))), []) else bif (decide ((gi o 0) = 2)) then some ((V.bool true), []) else some ((V.bool (decide ((1 : Int) ≤ (gi o 3)))), []) else bif (decide ((gi o 0) = 2)) then bif (decide ((gi o 0) = 0)) then some ((V.bool (decide ((gi o 3) = 0))), []) else bif (decide ((gi o 0) = 1)) then some ((V.bool (decide ((gi o 3) = 0))), []) else bif (decide ((gi o 0) = 3)) then some ((V.bool (decide ((gi o 3) = 0))), []) else bif (decide ((gi o 0) = 4)) then some ((V.bool (decide ((gi o 3) ≤ 1))), []) else bif (decide ((gi o 0) = 2)) then some ((V.bool true), []) else some ((V.bool (decide ((1 : Int) ≤ (gi o 3)))), []) else bif (!(decide ((gi o 0) = 6))) then bif (decide ((0 : Int) < (((gl o 2).length : Nat) : Int))) then some ((V.bool false), []) else bif (decide ((gi o 0) = 0)) then some ((V.bool (decide ((gi o 3) = 0))), []) else bif (decide ((gi o 0) = 1)) then some ((V.bool (decide ((gi o 3) = 0))), []) else bif (decide ((gi o 0) = 3)) then some ((V.bool (decide ((gi o 3) = 0))), []) else bif (decide ((gi o 0) = 4)) then some ((V.bool (decide ((gi o 3) ≤ 1))), []) else bif (decide ((gi o 0) = 2)) then some ((V.bool true), []) else some ((V.bool (decide ((1 : Int) ≤ (gi o 3)))), []) else bif (decide ((gi o 0) = 0)) then some ((V.bool (decide ((gi o 3) = 0))), []) else bif (decide ((gi o 0) = 1)) then some ((V.bool (decide ((gi o 3) = 0))), []) else bif (decide ((gi o 0) = 3)) then some ((V.bool (decide ((gi o 3) = 0))), []) else bif (decide ((gi o 0) = 4)) then some ((V.bool (decide ((gi o 3) ≤ 1))), []) else bif (decide ((gi o 0) = 2)) then some ((V.bool true), []) else some ((V.bool (decide ((1 : Int) ≤ (gi o 3)))), []) else bif (decide ((gi o 0) = 7)) then rcall (spec_l2key (gl o 1)) fun r23 => bif (!r23) then some ((V.bool false), []) else bif (!(decide ((gi o 0) = 7))) then bif (decide ((0 : Int) < (((gl o 1).length : Nat) : Int))) then some ((V.bool false), []) else bif (decide ((gi o 0) = 1)) then bif (decide ((gi o 0) = 0)) then some ((V.bool (decide ((gi o 3) = 0))), []) else bif (decide ((gi o 0) = 1)) then some ((V.bool (decide ((gi o 3) = 0))), []) else bif (decide ((gi o 0) = 3)) then some ((V.bool (decide ((gi o 3) = 0))), []) else bif (decide ((gi o 0) = 4)) then some ((V.bool (decide ((gi o 3) ≤ 1))), []) else bif (decide ((gi o 0) = 2)) then some ((V.bool true), []) else some ((V.bool (decide ((1 : Int) ≤ (gi o 3)))), []) else bif (decide ((gi o 0) = 2)) then bif (decide ((gi o 0) = 0)) then some ((V.bool (decide ((gi o 3) = 0))), []) else bif (decide ((gi o 0) = 1)) then some ((V.bool (decide ((gi o 3) = 0))), []) else bif (decide ((gi o 0) = 3)) then some ((V.bool (decide ((gi o 3) = 0))), []) else bif (decide ((gi o 0) = 4)) then some ((V.bool (decide ((gi o 3) ≤ 1))), []) else bif (decide ((gi o 0) = 2)) then some ((V.bool true), []) else some ((V.bool (decide ((1 : Int) ≤ (gi o 3)))), []) else bif (!(decide ((gi o 0) = 6))) then bif (decide ((0 : Int) < (((gl o 2).length : Nat) : Int))) then some ((V.bool false), []) else bif (decide ((gi o 0) = 0)) then some ((V.bool (decide ((gi o 3) = 0))), []) else bif (decide ((gi o 0) = 1)) then some ((V.bool (decide ((gi o 3) = 0))), []) else bif (decide ((gi o 0) = 3)) then some ((V.bool (decide ((gi o 3) = 0))), []) else bif (decide ((gi o 0) = 4)) then some ((V.bool (decide ((gi o 3) ≤ 1))), []) else bif (decide ((gi o 0) = 2)) then some ((V.bool true), []) else some ((V.bool (decide ((1 : Int) ≤ (gi o 3)))), []) else bif (decide ((gi o 0) = 0)) then some ((V.bool (decide ((gi o 3) = 0))), []) else bif (decide ((gi o 0) = 1)) then some ((V.bool (decide ((gi o 3) = 0))), []) else bif (decide ((gi o 0) = 3)) then some ((V.bool (decide ((gi o 3) = 0))), []) else bif (decide ((gi o 0) = 4)) then some ((V.bool (decide ((gi o 3) ≤ 1))), []) else bif (decide ((gi o 0) = 2)) then some ((V.bool true), []) else some ((V.bool (decide ((1 : Int) ≤ (gi o 3)))), []) else bif (decide ((gi o 0) = 1)) then bif (decide ((gi o 0) = 0)) then some ((V.bool (decide ((gi o 3) = 0))), []) else bif (decide ((gi o 0) = 1)) then some ((V.bool (decide ((gi o 3) = 0))), []) else bif (decide ((gi o 0) = 3)) then some ((V.bool (decide ((gi o 3) = 0))), []) else bif (decide ((gi o 0) = 4)) then some ((V.bool (decide ((gi o 3) ≤ 1))), []) else bif (decide ((gi o 0) = 2)) then some ((V.bool true), []) else some ((V.bool (decide ((1 : Int) ≤ (gi o 3)))), []) else bif (decide ((gi o 0) = 2)) then bif (decide ((gi o 0) = 0)) then some ((V.bool (decide ((gi o 3) = 0))), []) else bif (decide ((gi o 0) = 1)) then some ((V.bool (decide ((gi o 3) = 0))), []) else bif (decide ((gi o 0) = 3)) then some ((V.bool (decide ((gi o 3) = 0))), []) else bif (decide ((gi o 0) = 4)) then some ((V.bool (decide ((gi o 3) ≤ 1))), []) else bif (decide ((gi o 0) = 2)) then some ((V.bool true), []) else some ((V.bool (decide ((1 : Int) ≤ (gi o 3)))), []) else bif (!(decide ((gi o 0) = 6))) then bif (decide ((0 : Int) < (((gl o 2).length : Nat) : Int))) then some ((V.bool false), []) else bif (decide ((gi o 0) = 0)) then some ((V.bool (decide ((gi o 3) = 0))), []) else bif (decide ((gi o 0) = 1)) then some ((V.bool (decide ((gi o 3) = 0))), []) else bif (decide ((gi o 0) = 3)) then some ((V.bool (decide ((gi o 3) = 0))), []) else bif (decide ((gi o 0) = 4)) then some ((V.bool (decide ((gi o 3) ≤ 1))), []) else bif (decide ((gi o 0) = 2)) then some ((V.bool true), []) else some ((V.bool (decide ((1 : Int) ≤ (gi o 3)))), []) else bif (decide ((gi o 0) = 0)) then some ((V.bool (decide ((gi o 3) = 0))), []) else bif (decide ((gi o 0) = 1)) then some ((V.bool (decide ((gi o 3) = 0))), []) else bif (decide ((gi o 0) = 3)) then some ((V.bool (decide ((gi o 3) = 0))), []) else bif (decide ((gi o 0) = 4)) then some ((V.bool (decide ((gi o 3) ≤ 1))), []) else bif (decide ((gi o 0) = 2)) then some ((V.bool true), []) else some ((V.bool (decide ((1 : Int) ≤ (gi o 3)))), []) else bif (!(decide ((gi o 0) = 7))) then bif (decide ((0 : Int) < (((gl o 1).length : Nat) : Int))) then some ((V.bool false), []) else bif (decide ((gi o 0) = 1)) then bif (decide ((gi o 0) = 0)) then some ((V.bool (decide ((gi o 3) = 0))), []) else bif (decide ((gi o 0) = 1)) then some ((V.bool (decide ((gi o 3) = 0))), []) else bif (decide ((gi o 0) = 3)) then some ((V.bool (decide ((gi o 3) = 0))), []) else bif (decide ((gi o 0) = 4)) then some ((V.bool (decide ((gi o 3) ≤ 1))), []) else bif (decide ((gi o 0) = 2)) then some ((V.bool true), []) else some ((V.bool (decide ((1 : Int) ≤ (gi o 3)))), []) else bif (decide ((gi o 0) = 2)) then bif (decide ((gi o 0) = 0)) then some ((V.bool (decide ((gi o 3) = 0))), []) else bif (decide ((gi o 0) = 1)) then some ((V.bool (decide ((gi o 3) = 0))), []) else bif (decide ((gi o 0) = 3)) then some ((V.bool (decide ((gi o 3) = 0))), []) else bif (decide ((gi o 0) = 4)) then some ((V.bool (decide ((gi o 3) ≤ 1))), []) else bif (decide ((gi o 0) = 2)) then some ((V.bool true), []) else some ((V.bool (decide ((1 : Int) ≤ (gi o 3)))), []) else bif (!(decide ((gi o 0) = 6))) then bif (decide ((0 : Int) < (((gl o 2).length : Nat) : Int))) then some ((V.bool false), []) else bif (decide ((gi o 0) = 0)) then some ((V.bool (decide ((gi o 3) = 0))), []) else bif (decide ((gi o 0) = 1)) then some ((V.bool (decide ((gi o 3) = 0))), []) else bif (decide ((gi o 0) = 3)) then some ((V.bool (decide ((gi o 3) = 0))), []) else bif (decide ((gi o 0) = 4)) then some ((V.bool (decide ((gi o 3) ≤ 1))), []) else bif (decide ((gi o 0) = 2)) then some ((V.bool true), []) else some ((V.bool (decide ((1 : Int) ≤ (gi o 3)))), []) else bif (decide ((gi o 0) = 0)) then some ((V.bool (decide ((gi o 3) = 0))), []) else bif (decide ((gi o 0) = 1)) then some ((V.bool (decide ((gi o 3) = 0))), []) else bif (decide ((gi o 0) = 3)) then some ((V.bool (decide ((gi o 3) = 0))), []) else bif (decide ((gi o 0) = 4)) then some ((V.bool (decide ((gi o 3) ≤ 1))), []) else bif (decide ((gi o 0) = 2)) then some ((V.bool true), []) else some ((V.bool (decide ((1 : Int) ≤ (gi o 3)))), []) else bif (decide ((gi o 0) = 1)) then bif (decide ((gi o 0) = 0)) then some ((V.bool (decide ((gi o 3) = 0))), []) else bif (decide ((gi o 0) = 1)) then some ((V.bool (decide ((gi o 3) = 0))), []) else bif (decide ((gi o 0) = 3)) then some ((V.bool (decide ((gi o 3) = 0))), []) else bif (decide ((gi o 0) = 4)) then some ((V.bool (decide ((gi o 3) ≤ 1))), []) else bif (decide ((gi o 0) = 2)) then some ((V.bool true), []) else some ((V.bool (decide ((1 : Int) ≤ (gi o 3)))), []) else bif (decide ((gi o 0) = 2)) then bif (decide ((gi o 0) = 0)) then some ((V.bool (decide ((gi o 3) = 0))), []) else bif (decide ((gi o 0) = 1)) then some ((V.bool (decide ((gi o 3) = 0))), []) else bif (decide ((gi o 0) = 3)) then some ((V.bool (decide ((gi o 3) = 0))), []) else bif (decide ((gi o 0) = 4)) then some ((V.bool (decide ((gi o 3) ≤ 1))), []) else bif (decide ((gi o 0) = 2)) then some ((V.bool true), []) else some ((V.bool (decide ((1 : Int) ≤ (gi o 3)))), []) else bif (!(decide ((gi o 0) = 6))) then bif (decide ((0 : Int) < (((gl o 2).length : Nat) : Int))) then some ((V.bool false), []) else bif (decide ((gi o 0) = 0)) then some ((V.bool (decide ((gi o 3) = 0))), []) else bif (decide ((gi o 0) = 1)) then some ((V.bool (decide ((gi o 3) = 0))), []) else bif (decide ((gi o 0) = 3)) then some ((V.bool (decide ((gi o 3) = 0))), []) else bif (decide ((gi o 0) = 4)) then some ((V.bool (decide ((gi o 3) ≤ 1))), []) else bif (decide ((gi o 0) = 2)) then some ((V.bool true), []) else some ((V.bool (decide ((1 : Int) ≤ (gi o 3)))), []) else bif (decide ((gi o 0) = 0)) then some ((V.bool (decide ((gi o 3) = 0))), []) else bif (decide ((gi o 0) = 1)) then some ((V.bool (decide ((gi o 3) = 0))), []) else bif (decide ((gi o 0) = 3)) then some ((V.bool (decide ((gi o 3) = 0))), []) else bif (decide ((gi o 0) = 4)) then some ((V.bool (decide ((gi o 3) ≤ 1))), []) else bif (decide ((gi o 0) = 2)) then some ((V.bool true), []) else some ((V.bool (decide ((1 : Int) ≤ (gi o 3)))), [])) := by kernel_rfl
  rw [h, spec_OpOk]
  clear h
  repeat' (first | exact agr_none | refine agr_if ?_ ?_ | refine agr_call fun _ => ?_ | refine agr_let fun _ => ?_ | exact agr_leaf (by kernel_rfl))
def spec_OpOk_s (args : List V) : Option (Bool × (V × List V)) := bif argsOk [(.agg [(.int .i64), (.inl t_byte), (.inl t_byte), (.int .i64)])] args then some ((spec_OpOk (rd args 0)).isSome, spec_OpOk_sh ((spec_OpOk (rd args 0)).getD default)) else none
theorem spec_OpOk_s_ok : ∀ args r, spec_OpOk_s args = some (true, r) → SumOk Try.prog tab 105 args r :=
  Base.sum (cfg := spec_OpOk_c) (F := fun args => spec_OpOk (rd args 0)) (shr := spec_OpOk_sh) base spec_OpOk_c_ok Try.func105 (by kernel_rfl) (GoodAll.ok (l := []) GoodAll.nil rfl) [(.agg [(.int .i64), (.inl t_byte), (.inl t_byte), (.int .i64)])] (by kernel_rfl) [[.dead]] [] (by kernel_rfl) fun args h => by
    have q := spec_OpOk_e (rd args 0)
    rw [show [(n_laws_Op (rd args 0))] = args from h] at q
    exact q
def spec_CmdOk_c : Cfg := ⟨tab, sumsOf [(105, spec_OpOk_s)], fun _ => false, fun f => (look [(105, [none])] f).getD [], false⟩
theorem spec_CmdOk_c_ok : SumsOk Try.prog tab spec_CmdOk_c.sums := sums_cons f105_en spec_OpOk_s_ok (sums_nil)
def spec_CmdOk_L : Loops := ⟨fun k => (look [] k).getD [], fun k => (look [] k).getD [], fun k => (look [] k).getD [], runL []⟩
def spec_CmdOk_sh (r_ : Bool) : V × List V := ((V.bool r_), [])
set_option maxRecDepth 100000 in
theorem spec_CmdOk_e (c : V) : Agr (wkF [[.dead]] []) spec_CmdOk_sh (spec_CmdOk c) (evalFn spec_CmdOk_c spec_CmdOk_L Try.f64 [(n_laws_Cmd c)]) := by
  have h : evalFn spec_CmdOk_c spec_CmdOk_L Try.f64 [(n_laws_Cmd c)] = (bif (decide ((gi c 0) = (-1))) then bif (decide ((gi c 1) = 0)) then bif (decide ((gi c 2) = 0)) then rcall (spec_OpOk (V.agg [(V.int .i64 (gi c 2)), (V.inl t_byte (gl c 3)), (V.inl t_byte (gl c 4)), (V.int .i64 (gi c 5))])) fun r24 => some ((V.bool r24), []) else some ((V.bool false), []) else some ((V.bool false), []) else bif (decide ((0 : Int) ≤ (gi c 0))) then bif (decide ((gi c 0) < 4)) then bif (decide ((1 : Int) ≤ (gi c 1))) then bif (decide ((gi c 1) ≤ 1000000)) then rcall (spec_OpOk (V.agg [(V.int .i64 (gi c 2)), (V.inl t_byte (gl c 3)), (V.inl t_byte (gl c 4)), (V.int .i64 (gi c 5))])) fun r25 => some ((V.bool r25), []) else some ((V.bool false), []) else some ((V.bool false), []) else some ((V.bool false), []) else some ((V.bool false), [])) := by kernel_rfl
  rw [h, spec_CmdOk]
  clear h
  repeat' (first | exact agr_none | refine agr_if ?_ ?_ | refine agr_call fun _ => ?_ | refine agr_let fun _ => ?_ | exact agr_leaf (by kernel_rfl))
def spec_CmdOk_s (args : List V) : Option (Bool × (V × List V)) := bif argsOk [(.agg [(.int .i64), (.int .i64), (.int .i64), (.inl t_byte), (.inl t_byte), (.int .i64)])] args then some ((spec_CmdOk (rd args 0)).isSome, spec_CmdOk_sh ((spec_CmdOk (rd args 0)).getD default)) else none
theorem spec_CmdOk_s_ok : ∀ args r, spec_CmdOk_s args = some (true, r) → SumOk Try.prog tab 64 args r :=
  Base.sum (cfg := spec_CmdOk_c) (F := fun args => spec_CmdOk (rd args 0)) (shr := spec_CmdOk_sh) base spec_CmdOk_c_ok Try.func64 (by kernel_rfl) (GoodAll.ok (l := []) GoodAll.nil rfl) [(.agg [(.int .i64), (.int .i64), (.int .i64), (.inl t_byte), (.inl t_byte), (.int .i64)])] (by kernel_rfl) [[.dead]] [] (by kernel_rfl) fun args h => by
    have q := spec_CmdOk_e (rd args 0)
    rw [show [(n_laws_Cmd (rd args 0))] = args from h] at q
    exact q
def spec_ItemOk_c : Cfg := ⟨tab, sumsOf [(64, spec_CmdOk_s)], fun _ => false, fun f => (look [(64, [none])] f).getD [], false⟩
theorem spec_ItemOk_c_ok : SumsOk Try.prog tab spec_ItemOk_c.sums := sums_cons f64_en spec_CmdOk_s_ok (sums_nil)
def spec_ItemOk_L : Loops := ⟨fun k => (look [] k).getD [], fun k => (look [] k).getD [], fun k => (look [] k).getD [], runL []⟩
def spec_ItemOk_sh (r_ : Bool) : V × List V := ((V.bool r_), [])
theorem spec_ItemOk_e (x : V) : Agr (wkF [[.dead]] []) spec_ItemOk_sh (spec_ItemOk x) (evalFn spec_ItemOk_c spec_ItemOk_L Try.f86 [(n_impl_Item x)]) := by
  have h : evalFn spec_ItemOk_c spec_ItemOk_L Try.f86 [(n_impl_Item x)] = (bif (decide ((1 : Int) ≤ (gi x 0))) then bif (decide ((gi x 0) ≤ 100000)) then rcall (spec_CmdOk (V.agg [(V.int .i64 (gi x 1)), (V.int .i64 (gi x 2)), (V.int .i64 (gi x 3)), (V.inl t_byte (gl x 4)), (V.inl t_byte (gl x 5)), (V.int .i64 (gi x 6))])) fun r26 => some ((V.bool r26), []) else some ((V.bool false), []) else some ((V.bool false), [])) := by kernel_rfl
  rw [h, spec_ItemOk]
  clear h
  repeat' (first | exact agr_none | refine agr_if ?_ ?_ | refine agr_call fun _ => ?_ | refine agr_let fun _ => ?_ | exact agr_leaf (by kernel_rfl))
def spec_ItemOk_s (args : List V) : Option (Bool × (V × List V)) := bif argsOk [(.agg [(.int .i64), (.int .i64), (.int .i64), (.int .i64), (.inl t_byte), (.inl t_byte), (.int .i64)])] args then some ((spec_ItemOk (rd args 0)).isSome, spec_ItemOk_sh ((spec_ItemOk (rd args 0)).getD default)) else none
theorem spec_ItemOk_s_ok : ∀ args r, spec_ItemOk_s args = some (true, r) → SumOk Try.prog tab 86 args r :=
  Base.sum (cfg := spec_ItemOk_c) (F := fun args => spec_ItemOk (rd args 0)) (shr := spec_ItemOk_sh) base spec_ItemOk_c_ok Try.func86 (by kernel_rfl) (GoodAll.ok (l := []) GoodAll.nil rfl) [(.agg [(.int .i64), (.int .i64), (.int .i64), (.int .i64), (.inl t_byte), (.inl t_byte), (.int .i64)])] (by kernel_rfl) [[.dead]] [] (by kernel_rfl) fun args h => by
    have q := spec_ItemOk_e (rd args 0)
    rw [show [(n_impl_Item (rd args 0))] = args from h] at q
    exact q
def spec_NodeOk_c : Cfg := ⟨tab, sumsOf [(83, spec_l4servers_s), (84, spec_l3term_s), (85, spec_l4who_s), (86, spec_ItemOk_s)], fun _ => false, fun f => (look [(83, [none]), (84, [none]), (85, [none, none]), (86, [none])] f).getD [], false⟩
theorem spec_NodeOk_c_ok : SumsOk Try.prog tab spec_NodeOk_c.sums := sums_cons f83_en spec_l4servers_s_ok (sums_cons f84_en spec_l3term_s_ok (sums_cons f85_en spec_l4who_s_ok (sums_cons f86_en spec_ItemOk_s_ok (sums_nil))))
def spec_NodeOk_l4_e : LE := ⟨4, ⟨[(1, (.one (.int .i64))), (2, (.one (.bp 0 0))), (5, (.one (.int .i64)))], [(.box t_impl_Node [(.int .i64), (.int .i64), (.int .i64), (.inl t_impl_Item), (.int .i64), (.int .i64), (.int .i64), (.int .i64), (.inl t_bool), (.inl t_int'), (.inl t_int')])], 1, []⟩, fun st => Out.tst (spec_NodeOk_l4 (((((gl (bc st 0) 3).length : Nat) : Int) - ((sv st 2).I)).toNat + 1) ((sv st 0).I) ((sv st 2).I) (bc st 0)).isSome (brs ((fun r_ => r_.1) ((spec_NodeOk_l4 (((((gl (bc st 0) 3).length : Nat) : Int) - ((sv st 2).I)).toNat + 1) ((sv st 0).I) ((sv st 2).I) (bc st 0)).getD default)) 0 ((fun r_ => [(Ex.ret, (⟨[(1, (V.int .i64 r_.2.1)), (2, (V.bp 0 0)), (4, (V.bool r_.2.2.1))], [(0, some (Blk.box t_impl_Node [(V.int .i64 (gi r_.2.2.2 0)), (V.int .i64 (gi r_.2.2.2 1)), (V.int .i64 (gi r_.2.2.2 2)), (V.inl t_impl_Item (gl r_.2.2.2 3)), (V.int .i64 (gi r_.2.2.2 4)), (V.int .i64 (gi r_.2.2.2 5)), (V.int .i64 (gi r_.2.2.2 6)), (V.int .i64 (gi r_.2.2.2 7)), (V.inl t_bool (gl r_.2.2.2 8)), (V.inl t_int' (gl r_.2.2.2 9)), (V.inl t_int' (gl r_.2.2.2 10))]))], 1, []⟩ : St)), ((Ex.exit 0), (⟨[(1, (V.int .i64 r_.2.1)), (2, (V.bp 0 0)), (4, V.dead)], [(0, some (Blk.box t_impl_Node [(V.int .i64 (gi r_.2.2.2 0)), (V.int .i64 (gi r_.2.2.2 1)), (V.int .i64 (gi r_.2.2.2 2)), (V.inl t_impl_Item (gl r_.2.2.2 3)), (V.int .i64 (gi r_.2.2.2 4)), (V.int .i64 (gi r_.2.2.2 5)), (V.int .i64 (gi r_.2.2.2 6)), (V.int .i64 (gi r_.2.2.2 7)), (V.inl t_bool (gl r_.2.2.2 8)), (V.inl t_int' (gl r_.2.2.2 9)), (V.inl t_int' (gl r_.2.2.2 10))]))], 1, []⟩ : St))]) ((spec_NodeOk_l4 (((((gl (bc st 0) 3).length : Nat) : Int) - ((sv st 2).I)).toNat + 1) ((sv st 0).I) ((sv st 2).I) (bc st 0)).getD default)))⟩
def spec_NodeOk_l11_e : LE := ⟨11, ⟨[(1, (.one (.int .i64))), (2, (.one (.bp 0 0))), (6, (.one (.int .i64)))], [(.box t_impl_Node [(.int .i64), (.int .i64), (.int .i64), (.inl t_impl_Item), (.int .i64), (.int .i64), (.int .i64), (.int .i64), (.inl t_bool), (.inl t_int'), (.inl t_int')])], 1, []⟩, fun st => Out.tst (spec_NodeOk_l11 ((((sv st 0).I) - ((sv st 2).I)).toNat + 1) ((sv st 0).I) ((sv st 2).I) (bc st 0)).isSome (brs ((fun r_ => r_.1) ((spec_NodeOk_l11 ((((sv st 0).I) - ((sv st 2).I)).toNat + 1) ((sv st 0).I) ((sv st 2).I) (bc st 0)).getD default)) 0 ((fun r_ => [(Ex.ret, (⟨[(2, (V.bp 0 0)), (4, (V.bool r_.2.1))], [(0, some (Blk.box t_impl_Node [(V.int .i64 (gi r_.2.2 0)), (V.int .i64 (gi r_.2.2 1)), (V.int .i64 (gi r_.2.2 2)), (V.inl t_impl_Item (gl r_.2.2 3)), (V.int .i64 (gi r_.2.2 4)), (V.int .i64 (gi r_.2.2 5)), (V.int .i64 (gi r_.2.2 6)), (V.int .i64 (gi r_.2.2 7)), (V.inl t_bool (gl r_.2.2 8)), (V.inl t_int' (gl r_.2.2 9)), (V.inl t_int' (gl r_.2.2 10))]))], 1, []⟩ : St)), ((Ex.exit 2), (⟨[(2, (V.bp 0 0)), (4, V.dead)], [(0, some (Blk.box t_impl_Node [(V.int .i64 (gi r_.2.2 0)), (V.int .i64 (gi r_.2.2 1)), (V.int .i64 (gi r_.2.2 2)), (V.inl t_impl_Item (gl r_.2.2 3)), (V.int .i64 (gi r_.2.2 4)), (V.int .i64 (gi r_.2.2 5)), (V.int .i64 (gi r_.2.2 6)), (V.int .i64 (gi r_.2.2 7)), (V.inl t_bool (gl r_.2.2 8)), (V.inl t_int' (gl r_.2.2 9)), (V.inl t_int' (gl r_.2.2 10))]))], 1, []⟩ : St))]) ((spec_NodeOk_l11 ((((sv st 0).I) - ((sv st 2).I)).toNat + 1) ((sv st 0).I) ((sv st 2).I) (bc st 0)).getD default)))⟩
def spec_NodeOk_L : Loops := ⟨fun k => (look [(4, [1, 2, 5]), (11, [1, 2, 6])] k).getD [], fun k => (look [] k).getD [], fun k => (look [(4, [1, 2, 4]), (11, [2, 4])] k).getD [], runL [spec_NodeOk_l4_e, spec_NodeOk_l11_e]⟩
set_option maxRecDepth 100000 in
theorem spec_NodeOk_l4_ok (k_ : Nat) : ∀ (servers1 : Int) (i5 : Int) (b0 : V), Agr id (fun r_ => pick (r_.1) 0 [(Ex.ret, (⟨[(1, (V.int .i64 r_.2.1)), (2, (V.bp 0 0)), (4, (V.bool r_.2.2.1))], [(0, some (Blk.box t_impl_Node [(V.int .i64 (gi r_.2.2.2 0)), (V.int .i64 (gi r_.2.2.2 1)), (V.int .i64 (gi r_.2.2.2 2)), (V.inl t_impl_Item (gl r_.2.2.2 3)), (V.int .i64 (gi r_.2.2.2 4)), (V.int .i64 (gi r_.2.2.2 5)), (V.int .i64 (gi r_.2.2.2 6)), (V.int .i64 (gi r_.2.2.2 7)), (V.inl t_bool (gl r_.2.2.2 8)), (V.inl t_int' (gl r_.2.2.2 9)), (V.inl t_int' (gl r_.2.2.2 10))]))], 1, []⟩ : St)), ((Ex.exit 0), (⟨[(1, (V.int .i64 r_.2.1)), (2, (V.bp 0 0)), (4, V.dead)], [(0, some (Blk.box t_impl_Node [(V.int .i64 (gi r_.2.2.2 0)), (V.int .i64 (gi r_.2.2.2 1)), (V.int .i64 (gi r_.2.2.2 2)), (V.inl t_impl_Item (gl r_.2.2.2 3)), (V.int .i64 (gi r_.2.2.2 4)), (V.int .i64 (gi r_.2.2.2 5)), (V.int .i64 (gi r_.2.2.2 6)), (V.int .i64 (gi r_.2.2.2 7)), (V.inl t_bool (gl r_.2.2.2 8)), (V.inl t_int' (gl r_.2.2.2 9)), (V.inl t_int' (gl r_.2.2.2 10))]))], 1, []⟩ : St))]) (spec_NodeOk_l4 k_ servers1 i5 b0) (rounds spec_NodeOk_c spec_NodeOk_L ((loopsIn (bodyOf Try.f33)).getD 0 .skip) k_ (⟨[(1, (V.int .i64 servers1)), (2, (V.bp 0 0)), (5, (V.int .i64 i5))], [(0, some (Blk.box t_impl_Node [(V.int .i64 (gi b0 0)), (V.int .i64 (gi b0 1)), (V.int .i64 (gi b0 2)), (V.inl t_impl_Item (gl b0 3)), (V.int .i64 (gi b0 4)), (V.int .i64 (gi b0 5)), (V.int .i64 (gi b0 6)), (V.int .i64 (gi b0 7)), (V.inl t_bool (gl b0 8)), (V.inl t_int' (gl b0 9)), (V.inl t_int' (gl b0 10))]))], 1, []⟩ : St)) := by
  induction k_ with
  | zero => intros; exact agr_none
  | succ k_ ih =>
    intro servers1 i5 b0
    have h : rounds spec_NodeOk_c spec_NodeOk_L ((loopsIn (bodyOf Try.f33)).getD 0 .skip) (k_ + 1) (⟨[(1, (V.int .i64 servers1)), (2, (V.bp 0 0)), (5, (V.int .i64 i5))], [(0, some (Blk.box t_impl_Node [(V.int .i64 (gi b0 0)), (V.int .i64 (gi b0 1)), (V.int .i64 (gi b0 2)), (V.inl t_impl_Item (gl b0 3)), (V.int .i64 (gi b0 4)), (V.int .i64 (gi b0 5)), (V.int .i64 (gi b0 6)), (V.int .i64 (gi b0 7)), (V.inl t_bool (gl b0 8)), (V.inl t_int' (gl b0 9)), (V.inl t_int' (gl b0 10))]))], 1, []⟩ : St) = (bif (decide (i5 < (((gl b0 3).length : Nat) : Int))) then bif (idxOk i5 ((gl b0 3).length)) then rcall (spec_ItemOk (n_impl_Item (rd (gl b0 3) i5.toNat))) fun r27 => bif (!r27) then some (Ex.ret, (⟨[(1, (V.int .i64 servers1)), (2, (V.bp 0 0)), (4, (V.bool false))], [(0, some (Blk.box t_impl_Node [(V.int .i64 (gi b0 0)), (V.int .i64 (gi b0 1)), (V.int .i64 (gi b0 2)), (V.inl t_impl_Item (gl b0 3)), (V.int .i64 (gi b0 4)), (V.int .i64 (gi b0 5)), (V.int .i64 (gi b0 6)), (V.int .i64 (gi b0 7)), (V.inl t_bool (gl b0 8)), (V.inl t_int' (gl b0 9)), (V.inl t_int' (gl b0 10))]))], 1, []⟩ : St)) else bif (idxOk i5 ((gl b0 3).length)) then bif (decide ((gi b0 1) < (gi (rd (gl b0 3) i5.toNat) 0))) then some (Ex.ret, (⟨[(1, (V.int .i64 servers1)), (2, (V.bp 0 0)), (4, (V.bool false))], [(0, some (Blk.box t_impl_Node [(V.int .i64 (gi b0 0)), (V.int .i64 (gi b0 1)), (V.int .i64 (gi b0 2)), (V.inl t_impl_Item (gl b0 3)), (V.int .i64 (gi b0 4)), (V.int .i64 (gi b0 5)), (V.int .i64 (gi b0 6)), (V.int .i64 (gi b0 7)), (V.inl t_bool (gl b0 8)), (V.inl t_int' (gl b0 9)), (V.inl t_int' (gl b0 10))]))], 1, []⟩ : St)) else bif (decide ((0 : Int) < i5)) then bif (idxOk (IntKind.i64.wrap (i5 - 1)) ((gl b0 3).length)) then bif (idxOk i5 ((gl b0 3).length)) then bif (decide ((gi (rd (gl b0 3) i5.toNat) 0) < (gi (rd (gl b0 3) ((IntKind.i64.wrap (i5 - 1)).toNat)) 0))) then some (Ex.ret, (⟨[(1, (V.int .i64 servers1)), (2, (V.bp 0 0)), (4, (V.bool false))], [(0, some (Blk.box t_impl_Node [(V.int .i64 (gi b0 0)), (V.int .i64 (gi b0 1)), (V.int .i64 (gi b0 2)), (V.inl t_impl_Item (gl b0 3)), (V.int .i64 (gi b0 4)), (V.int .i64 (gi b0 5)), (V.int .i64 (gi b0 6)), (V.int .i64 (gi b0 7)), (V.inl t_bool (gl b0 8)), (V.inl t_int' (gl b0 9)), (V.inl t_int' (gl b0 10))]))], 1, []⟩ : St)) else rounds spec_NodeOk_c spec_NodeOk_L ((loopsIn (bodyOf Try.f33)).getD 0 .skip) k_ (⟨[(1, (V.int .i64 servers1)), (2, (V.bp 0 0)), (5, (V.int .i64 (IntKind.i64.wrap (i5 + 1))))], [(0, some (Blk.box t_impl_Node [(V.int .i64 (gi b0 0)), (V.int .i64 (gi b0 1)), (V.int .i64 (gi b0 2)), (V.inl t_impl_Item (gl b0 3)), (V.int .i64 (gi b0 4)), (V.int .i64 (gi b0 5)), (V.int .i64 (gi b0 6)), (V.int .i64 (gi b0 7)), (V.inl t_bool (gl b0 8)), (V.inl t_int' (gl b0 9)), (V.inl t_int' (gl b0 10))]))], 1, []⟩ : St) else none else none else rounds spec_NodeOk_c spec_NodeOk_L ((loopsIn (bodyOf Try.f33)).getD 0 .skip) k_ (⟨[(1, (V.int .i64 servers1)), (2, (V.bp 0 0)), (5, (V.int .i64 (IntKind.i64.wrap (i5 + 1))))], [(0, some (Blk.box t_impl_Node [(V.int .i64 (gi b0 0)), (V.int .i64 (gi b0 1)), (V.int .i64 (gi b0 2)), (V.inl t_impl_Item (gl b0 3)), (V.int .i64 (gi b0 4)), (V.int .i64 (gi b0 5)), (V.int .i64 (gi b0 6)), (V.int .i64 (gi b0 7)), (V.inl t_bool (gl b0 8)), (V.inl t_int' (gl b0 9)), (V.inl t_int' (gl b0 10))]))], 1, []⟩ : St) else none else none else some ((Ex.exit 0), (⟨[(1, (V.int .i64 servers1)), (2, (V.bp 0 0)), (4, V.dead)], [(0, some (Blk.box t_impl_Node [(V.int .i64 (gi b0 0)), (V.int .i64 (gi b0 1)), (V.int .i64 (gi b0 2)), (V.inl t_impl_Item (gl b0 3)), (V.int .i64 (gi b0 4)), (V.int .i64 (gi b0 5)), (V.int .i64 (gi b0 6)), (V.int .i64 (gi b0 7)), (V.inl t_bool (gl b0 8)), (V.inl t_int' (gl b0 9)), (V.inl t_int' (gl b0 10))]))], 1, []⟩ : St))) := by kernel_rfl
    rw [h, spec_NodeOk_l4]
    clear h
    repeat' (first | exact agr_none | refine agr_if ?_ ?_ | refine agr_call fun _ => ?_ | refine agr_let fun _ => ?_ | exact agr_leaf (by kernel_rfl) | exact ih _ _ _)
set_option maxRecDepth 100000 in
theorem spec_NodeOk_l11_ok (k_ : Nat) : ∀ (servers1 : Int) (i6 : Int) (b0 : V), Agr id (fun r_ => pick (r_.1) 0 [(Ex.ret, (⟨[(2, (V.bp 0 0)), (4, (V.bool r_.2.1))], [(0, some (Blk.box t_impl_Node [(V.int .i64 (gi r_.2.2 0)), (V.int .i64 (gi r_.2.2 1)), (V.int .i64 (gi r_.2.2 2)), (V.inl t_impl_Item (gl r_.2.2 3)), (V.int .i64 (gi r_.2.2 4)), (V.int .i64 (gi r_.2.2 5)), (V.int .i64 (gi r_.2.2 6)), (V.int .i64 (gi r_.2.2 7)), (V.inl t_bool (gl r_.2.2 8)), (V.inl t_int' (gl r_.2.2 9)), (V.inl t_int' (gl r_.2.2 10))]))], 1, []⟩ : St)), ((Ex.exit 2), (⟨[(2, (V.bp 0 0)), (4, V.dead)], [(0, some (Blk.box t_impl_Node [(V.int .i64 (gi r_.2.2 0)), (V.int .i64 (gi r_.2.2 1)), (V.int .i64 (gi r_.2.2 2)), (V.inl t_impl_Item (gl r_.2.2 3)), (V.int .i64 (gi r_.2.2 4)), (V.int .i64 (gi r_.2.2 5)), (V.int .i64 (gi r_.2.2 6)), (V.int .i64 (gi r_.2.2 7)), (V.inl t_bool (gl r_.2.2 8)), (V.inl t_int' (gl r_.2.2 9)), (V.inl t_int' (gl r_.2.2 10))]))], 1, []⟩ : St))]) (spec_NodeOk_l11 k_ servers1 i6 b0) (rounds spec_NodeOk_c spec_NodeOk_L ((loopsIn (bodyOf Try.f33)).getD 1 .skip) k_ (⟨[(1, (V.int .i64 servers1)), (2, (V.bp 0 0)), (6, (V.int .i64 i6))], [(0, some (Blk.box t_impl_Node [(V.int .i64 (gi b0 0)), (V.int .i64 (gi b0 1)), (V.int .i64 (gi b0 2)), (V.inl t_impl_Item (gl b0 3)), (V.int .i64 (gi b0 4)), (V.int .i64 (gi b0 5)), (V.int .i64 (gi b0 6)), (V.int .i64 (gi b0 7)), (V.inl t_bool (gl b0 8)), (V.inl t_int' (gl b0 9)), (V.inl t_int' (gl b0 10))]))], 1, []⟩ : St)) := by
  induction k_ with
  | zero => intros; exact agr_none
  | succ k_ ih =>
    intro servers1 i6 b0
    have h : rounds spec_NodeOk_c spec_NodeOk_L ((loopsIn (bodyOf Try.f33)).getD 1 .skip) (k_ + 1) (⟨[(1, (V.int .i64 servers1)), (2, (V.bp 0 0)), (6, (V.int .i64 i6))], [(0, some (Blk.box t_impl_Node [(V.int .i64 (gi b0 0)), (V.int .i64 (gi b0 1)), (V.int .i64 (gi b0 2)), (V.inl t_impl_Item (gl b0 3)), (V.int .i64 (gi b0 4)), (V.int .i64 (gi b0 5)), (V.int .i64 (gi b0 6)), (V.int .i64 (gi b0 7)), (V.inl t_bool (gl b0 8)), (V.inl t_int' (gl b0 9)), (V.inl t_int' (gl b0 10))]))], 1, []⟩ : St) = (bif (decide (i6 < servers1)) then bif (decide ((gi b0 5) = 2)) then bif (idxOk i6 ((gl b0 9).length)) then bif (decide ((gi (rd (gl b0 9) i6.toNat) 0) < 1)) then some (Ex.ret, (⟨[(2, (V.bp 0 0)), (4, (V.bool false))], [(0, some (Blk.box t_impl_Node [(V.int .i64 (gi b0 0)), (V.int .i64 (gi b0 1)), (V.int .i64 (gi b0 2)), (V.inl t_impl_Item (gl b0 3)), (V.int .i64 (gi b0 4)), (V.int .i64 (gi b0 5)), (V.int .i64 (gi b0 6)), (V.int .i64 (gi b0 7)), (V.inl t_bool (gl b0 8)), (V.inl t_int' (gl b0 9)), (V.inl t_int' (gl b0 10))]))], 1, []⟩ : St)) else bif (idxOk i6 ((gl b0 9).length)) then bif (decide ((IntKind.i64.wrap ((((gl b0 3).length : Nat) : Int) + 1)) < (gi (rd (gl b0 9) i6.toNat) 0))) then some (Ex.ret, (⟨[(2, (V.bp 0 0)), (4, (V.bool false))], [(0, some (Blk.box t_impl_Node [(V.int .i64 (gi b0 0)), (V.int .i64 (gi b0 1)), (V.int .i64 (gi b0 2)), (V.inl t_impl_Item (gl b0 3)), (V.int .i64 (gi b0 4)), (V.int .i64 (gi b0 5)), (V.int .i64 (gi b0 6)), (V.int .i64 (gi b0 7)), (V.inl t_bool (gl b0 8)), (V.inl t_int' (gl b0 9)), (V.inl t_int' (gl b0 10))]))], 1, []⟩ : St)) else bif (idxOk i6 ((gl b0 10).length)) then bif (decide ((gi (rd (gl b0 10) i6.toNat) 0) < 0)) then some (Ex.ret, (⟨[(2, (V.bp 0 0)), (4, (V.bool false))], [(0, some (Blk.box t_impl_Node [(V.int .i64 (gi b0 0)), (V.int .i64 (gi b0 1)), (V.int .i64 (gi b0 2)), (V.inl t_impl_Item (gl b0 3)), (V.int .i64 (gi b0 4)), (V.int .i64 (gi b0 5)), (V.int .i64 (gi b0 6)), (V.int .i64 (gi b0 7)), (V.inl t_bool (gl b0 8)), (V.inl t_int' (gl b0 9)), (V.inl t_int' (gl b0 10))]))], 1, []⟩ : St)) else bif (idxOk i6 ((gl b0 10).length)) then bif (decide ((((gl b0 3).length : Nat) : Int) < (gi (rd (gl b0 10) i6.toNat) 0))) then some (Ex.ret, (⟨[(2, (V.bp 0 0)), (4, (V.bool false))], [(0, some (Blk.box t_impl_Node [(V.int .i64 (gi b0 0)), (V.int .i64 (gi b0 1)), (V.int .i64 (gi b0 2)), (V.inl t_impl_Item (gl b0 3)), (V.int .i64 (gi b0 4)), (V.int .i64 (gi b0 5)), (V.int .i64 (gi b0 6)), (V.int .i64 (gi b0 7)), (V.inl t_bool (gl b0 8)), (V.inl t_int' (gl b0 9)), (V.inl t_int' (gl b0 10))]))], 1, []⟩ : St)) else bif (!(decide ((gi b0 5) = 2))) then bif (idxOk i6 ((gl b0 9).length)) then bif (!(decide ((gi (rd (gl b0 9) i6.toNat) 0) = 0))) then some (Ex.ret, (⟨[(2, (V.bp 0 0)), (4, (V.bool false))], [(0, some (Blk.box t_impl_Node [(V.int .i64 (gi b0 0)), (V.int .i64 (gi b0 1)), (V.int .i64 (gi b0 2)), (V.inl t_impl_Item (gl b0 3)), (V.int .i64 (gi b0 4)), (V.int .i64 (gi b0 5)), (V.int .i64 (gi b0 6)), (V.int .i64 (gi b0 7)), (V.inl t_bool (gl b0 8)), (V.inl t_int' (gl b0 9)), (V.inl t_int' (gl b0 10))]))], 1, []⟩ : St)) else bif (idxOk i6 ((gl b0 10).length)) then bif (!(decide ((gi (rd (gl b0 10) i6.toNat) 0) = 0))) then some (Ex.ret, (⟨[(2, (V.bp 0 0)), (4, (V.bool false))], [(0, some (Blk.box t_impl_Node [(V.int .i64 (gi b0 0)), (V.int .i64 (gi b0 1)), (V.int .i64 (gi b0 2)), (V.inl t_impl_Item (gl b0 3)), (V.int .i64 (gi b0 4)), (V.int .i64 (gi b0 5)), (V.int .i64 (gi b0 6)), (V.int .i64 (gi b0 7)), (V.inl t_bool (gl b0 8)), (V.inl t_int' (gl b0 9)), (V.inl t_int' (gl b0 10))]))], 1, []⟩ : St)) else bif (decide ((gi b0 5) = 0)) then bif (idxOk i6 ((gl b0 8).length)) then bif (gb (rd (gl b0 8) i6.toNat) 0) then some (Ex.ret, (⟨[(2, (V.bp 0 0)), (4, (V.bool false))], [(0, some (Blk.box t_impl_Node [(V.int .i64 (gi b0 0)), (V.int .i64 (gi b0 1)), (V.int .i64 (gi b0 2)), (V.inl t_impl_Item (gl b0 3)), (V.int .i64 (gi b0 4)), (V.int .i64 (gi b0 5)), (V.int .i64 (gi b0 6)), (V.int .i64 (gi b0 7)), (V.inl t_bool (gl b0 8)), (V.inl t_int' (gl b0 9)), (V.inl t_int' (gl b0 10))]))], 1, []⟩ : St)) else rounds spec_NodeOk_c spec_NodeOk_L ((loopsIn (bodyOf Try.f33)).getD 1 .skip) k_ (⟨[(1, (V.int .i64 servers1)), (2, (V.bp 0 0)), (6, (V.int .i64 (IntKind.i64.wrap (i6 + 1))))], [(0, some (Blk.box t_impl_Node [(V.int .i64 (gi b0 0)), (V.int .i64 (gi b0 1)), (V.int .i64 (gi b0 2)), (V.inl t_impl_Item (gl b0 3)), (V.int .i64 (gi b0 4)), (V.int .i64 (gi b0 5)), (V.int .i64 (gi b0 6)), (V.int .i64 (gi b0 7)), (V.inl t_bool (gl b0 8)), (V.inl t_int' (gl b0 9)), (V.inl t_int' (gl b0 10))]))], 1, []⟩ : St) else none else rounds spec_NodeOk_c spec_NodeOk_L ((loopsIn (bodyOf Try.f33)).getD 1 .skip) k_ (⟨[(1, (V.int .i64 servers1)), (2, (V.bp 0 0)), (6, (V.int .i64 (IntKind.i64.wrap (i6 + 1))))], [(0, some (Blk.box t_impl_Node [(V.int .i64 (gi b0 0)), (V.int .i64 (gi b0 1)), (V.int .i64 (gi b0 2)), (V.inl t_impl_Item (gl b0 3)), (V.int .i64 (gi b0 4)), (V.int .i64 (gi b0 5)), (V.int .i64 (gi b0 6)), (V.int .i64 (gi b0 7)), (V.inl t_bool (gl b0 8)), (V.inl t_int' (gl b0 9)), (V.inl t_int' (gl b0 10))]))], 1, []⟩ : St) else none else none else bif (decide ((gi b0 5) = 0)) then bif (idxOk i6 ((gl b0 8).length)) then bif (gb (rd (gl b0 8) i6.toNat) 0) then some (Ex.ret, (⟨[(2, (V.bp 0 0)), (4, (V.bool false))], [(0, some (Blk.box t_impl_Node [(V.int .i64 (gi b0 0)), (V.int .i64 (gi b0 1)), (V.int .i64 (gi b0 2)), (V.inl t_impl_Item (gl b0 3)), (V.int .i64 (gi b0 4)), (V.int .i64 (gi b0 5)), (V.int .i64 (gi b0 6)), (V.int .i64 (gi b0 7)), (V.inl t_bool (gl b0 8)), (V.inl t_int' (gl b0 9)), (V.inl t_int' (gl b0 10))]))], 1, []⟩ : St)) else rounds spec_NodeOk_c spec_NodeOk_L ((loopsIn (bodyOf Try.f33)).getD 1 .skip) k_ (⟨[(1, (V.int .i64 servers1)), (2, (V.bp 0 0)), (6, (V.int .i64 (IntKind.i64.wrap (i6 + 1))))], [(0, some (Blk.box t_impl_Node [(V.int .i64 (gi b0 0)), (V.int .i64 (gi b0 1)), (V.int .i64 (gi b0 2)), (V.inl t_impl_Item (gl b0 3)), (V.int .i64 (gi b0 4)), (V.int .i64 (gi b0 5)), (V.int .i64 (gi b0 6)), (V.int .i64 (gi b0 7)), (V.inl t_bool (gl b0 8)), (V.inl t_int' (gl b0 9)), (V.inl t_int' (gl b0 10))]))], 1, []⟩ : St) else none else rounds spec_NodeOk_c spec_NodeOk_L ((loopsIn (bodyOf Try.f33)).getD 1 .skip) k_ (⟨[(1, (V.int .i64 servers1)), (2, (V.bp 0 0)), (6, (V.int .i64 (IntKind.i64.wrap (i6 + 1))))], [(0, some (Blk.box t_impl_Node [(V.int .i64 (gi b0 0)), (V.int .i64 (gi b0 1)), (V.int .i64 (gi b0 2)), (V.inl t_impl_Item (gl b0 3)), (V.int .i64 (gi b0 4)), (V.int .i64 (gi b0 5)), (V.int .i64 (gi b0 6)), (V.int .i64 (gi b0 7)), (V.inl t_bool (gl b0 8)), (V.inl t_int' (gl b0 9)), (V.inl t_int' (gl b0 10))]))], 1, []⟩ : St) else none else none else none else none else bif (!(decide ((gi b0 5) = 2))) then bif (idxOk i6 ((gl b0 9).length)) then bif (!(decide ((gi (rd (gl b0 9) i6.toNat) 0) = 0))) then some (Ex.ret, (⟨[(2, (V.bp 0 0)), (4, (V.bool false))], [(0, some (Blk.box t_impl_Node [(V.int .i64 (gi b0 0)), (V.int .i64 (gi b0 1)), (V.int .i64 (gi b0 2)), (V.inl t_impl_Item (gl b0 3)), (V.int .i64 (gi b0 4)), (V.int .i64 (gi b0 5)), (V.int .i64 (gi b0 6)), (V.int .i64 (gi b0 7)), (V.inl t_bool (gl b0 8)), (V.inl t_int' (gl b0 9)), (V.inl t_int' (gl b0 10))]))], 1, []⟩ : St)) else bif (idxOk i6 ((gl b0 10).length)) then bif (!(decide ((gi (rd (gl b0 10) i6.toNat) 0) = 0))) then some (Ex.ret, (⟨[(2, (V.bp 0 0)), (4, (V.bool false))], [(0, some (Blk.box t_impl_Node [(V.int .i64 (gi b0 0)), (V.int .i64 (gi b0 1)), (V.int .i64 (gi b0 2)), (V.inl t_impl_Item (gl b0 3)), (V.int .i64 (gi b0 4)), (V.int .i64 (gi b0 5)), (V.int .i64 (gi b0 6)), (V.int .i64 (gi b0 7)), (V.inl t_bool (gl b0 8)), (V.inl t_int' (gl b0 9)), (V.inl t_int' (gl b0 10))]))], 1, []⟩ : St)) else bif (decide ((gi b0 5) = 0)) then bif (idxOk i6 ((gl b0 8).length)) then bif (gb (rd (gl b0 8) i6.toNat) 0) then some (Ex.ret, (⟨[(2, (V.bp 0 0)), (4, (V.bool false))], [(0, some (Blk.box t_impl_Node [(V.int .i64 (gi b0 0)), (V.int .i64 (gi b0 1)), (V.int .i64 (gi b0 2)), (V.inl t_impl_Item (gl b0 3)), (V.int .i64 (gi b0 4)), (V.int .i64 (gi b0 5)), (V.int .i64 (gi b0 6)), (V.int .i64 (gi b0 7)), (V.inl t_bool (gl b0 8)), (V.inl t_int' (gl b0 9)), (V.inl t_int' (gl b0 10))]))], 1, []⟩ : St)) else rounds spec_NodeOk_c spec_NodeOk_L ((loopsIn (bodyOf Try.f33)).getD 1 .skip) k_ (⟨[(1, (V.int .i64 servers1)), (2, (V.bp 0 0)), (6, (V.int .i64 (IntKind.i64.wrap (i6 + 1))))], [(0, some (Blk.box t_impl_Node [(V.int .i64 (gi b0 0)), (V.int .i64 (gi b0 1)), (V.int .i64 (gi b0 2)), (V.inl t_impl_Item (gl b0 3)), (V.int .i64 (gi b0 4)), (V.int .i64 (gi b0 5)), (V.int .i64 (gi b0 6)), (V.int .i64 (gi b0 7)), (V.inl t_bool (gl b0 8)), (V.inl t_int' (gl b0 9)), (V.inl t_int' (gl b0 10))]))], 1, []⟩ : St) else none else rounds spec_NodeOk_c spec_NodeOk_L ((loopsIn (bodyOf Try.f33)).getD 1 .skip) k_ (⟨[(1, (V.int .i64 servers1)), (2, (V.bp 0 0)), (6, (V.int .i64 (IntKind.i64.wrap (i6 + 1))))], [(0, some (Blk.box t_impl_Node [(V.int .i64 (gi b0 0)), (V.int .i64 (gi b0 1)), (V.int .i64 (gi b0 2)), (V.inl t_impl_Item (gl b0 3)), (V.int .i64 (gi b0 4)), (V.int .i64 (gi b0 5)), (V.int .i64 (gi b0 6)), (V.int .i64 (gi b0 7)), (V.inl t_bool (gl b0 8)), (V.inl t_int' (gl b0 9)), (V.inl t_int' (gl b0 10))]))], 1, []⟩ : St) else none else none else bif (decide ((gi b0 5) = 0)) then bif (idxOk i6 ((gl b0 8).length)) then bif (gb (rd (gl b0 8) i6.toNat) 0) then some (Ex.ret, (⟨[(2, (V.bp 0 0)), (4, (V.bool false))], [(0, some (Blk.box t_impl_Node [(V.int .i64 (gi b0 0)), (V.int .i64 (gi b0 1)), (V.int .i64 (gi b0 2)), (V.inl t_impl_Item (gl b0 3)), (V.int .i64 (gi b0 4)), (V.int .i64 (gi b0 5)), (V.int .i64 (gi b0 6)), (V.int .i64 (gi b0 7)), (V.inl t_bool (gl b0 8)), (V.inl t_int' (gl b0 9)), (V.inl t_int' (gl b0 10))]))], 1, []⟩ : St)) else rounds spec_NodeOk_c spec_NodeOk_L ((loopsIn (bodyOf Try.f33)).getD 1 .skip) k_ (⟨[(1, (V.int .i64 servers1)), (2, (V.bp 0 0)), (6, (V.int .i64 (IntKind.i64.wrap (i6 + 1))))], [(0, some (Blk.box t_impl_Node [(V.int .i64 (gi b0 0)), (V.int .i64 (gi b0 1)), (V.int .i64 (gi b0 2)), (V.inl t_impl_Item (gl b0 3)), (V.int .i64 (gi b0 4)), (V.int .i64 (gi b0 5)), (V.int .i64 (gi b0 6)), (V.int .i64 (gi b0 7)), (V.inl t_bool (gl b0 8)), (V.inl t_int' (gl b0 9)), (V.inl t_int' (gl b0 10))]))], 1, []⟩ : St) else none else rounds spec_NodeOk_c spec_NodeOk_L ((loopsIn (bodyOf Try.f33)).getD 1 .skip) k_ (⟨[(1, (V.int .i64 servers1)), (2, (V.bp 0 0)), (6, (V.int .i64 (IntKind.i64.wrap (i6 + 1))))], [(0, some (Blk.box t_impl_Node [(V.int .i64 (gi b0 0)), (V.int .i64 (gi b0 1)), (V.int .i64 (gi b0 2)), (V.inl t_impl_Item (gl b0 3)), (V.int .i64 (gi b0 4)), (V.int .i64 (gi b0 5)), (V.int .i64 (gi b0 6)), (V.int .i64 (gi b0 7)), (V.inl t_bool (gl b0 8)), (V.inl t_int' (gl b0 9)), (V.inl t_int' (gl b0 10))]))], 1, []⟩ : St) else some ((Ex.exit 2), (⟨[(2, (V.bp 0 0)), (4, V.dead)], [(0, some (Blk.box t_impl_Node [(V.int .i64 (gi b0 0)), (V.int .i64 (gi b0 1)), (V.int .i64 (gi b0 2)), (V.inl t_impl_Item (gl b0 3)), (V.int .i64 (gi b0 4)), (V.int .i64 (gi b0 5)), (V.int .i64 (gi b0 6)), (V.int .i64 (gi b0 7)), (V.inl t_bool (gl b0 8)), (V.inl t_int' (gl b0 9)), (V.inl t_int' (gl b0 10))]))], 1, []⟩ : St))) := by kernel_rfl
    rw [h, spec_NodeOk_l11]
    clear h
    repeat' (first | exact agr_none | refine agr_if ?_ ?_ | refine agr_call fun _ => ?_ | refine agr_let fun _ => ?_ | exact agr_leaf (by kernel_rfl) | exact ih _ _ _)
theorem spec_NodeOk_lo : LoopsOk spec_NodeOk_c spec_NodeOk_L (bodyOf Try.f33) := by
  refine GoodAll.ok (l := [spec_NodeOk_l4_e, spec_NodeOk_l11_e]) ?_ rfl
  refine GoodAll.cons 0 (by kernel_rfl) ?_ ?_
  · exact good_of (key := 4) (ss := ⟨[(1, (.one (.int .i64))), (2, (.one (.bp 0 0))), (5, (.one (.int .i64)))], [(.box t_impl_Node [(.int .i64), (.int .i64), (.int .i64), (.inl t_impl_Item), (.int .i64), (.int .i64), (.int .i64), (.int .i64), (.inl t_bool), (.inl t_int'), (.inl t_int')])], 1, []⟩) (F := fun st => spec_NodeOk_l4 (((((gl (bc st 0) 3).length : Nat) : Int) - ((sv st 2).I)).toNat + 1) ((sv st 0).I) ((sv st 2).I) (bc st 0)) (ix := fun r_ => r_.1) (ps := fun r_ => [(Ex.ret, (⟨[(1, (V.int .i64 r_.2.1)), (2, (V.bp 0 0)), (4, (V.bool r_.2.2.1))], [(0, some (Blk.box t_impl_Node [(V.int .i64 (gi r_.2.2.2 0)), (V.int .i64 (gi r_.2.2.2 1)), (V.int .i64 (gi r_.2.2.2 2)), (V.inl t_impl_Item (gl r_.2.2.2 3)), (V.int .i64 (gi r_.2.2.2 4)), (V.int .i64 (gi r_.2.2.2 5)), (V.int .i64 (gi r_.2.2.2 6)), (V.int .i64 (gi r_.2.2.2 7)), (V.inl t_bool (gl r_.2.2.2 8)), (V.inl t_int' (gl r_.2.2.2 9)), (V.inl t_int' (gl r_.2.2.2 10))]))], 1, []⟩ : St)), ((Ex.exit 0), (⟨[(1, (V.int .i64 r_.2.1)), (2, (V.bp 0 0)), (4, V.dead)], [(0, some (Blk.box t_impl_Node [(V.int .i64 (gi r_.2.2.2 0)), (V.int .i64 (gi r_.2.2.2 1)), (V.int .i64 (gi r_.2.2.2 2)), (V.inl t_impl_Item (gl r_.2.2.2 3)), (V.int .i64 (gi r_.2.2.2 4)), (V.int .i64 (gi r_.2.2.2 5)), (V.int .i64 (gi r_.2.2.2 6)), (V.int .i64 (gi r_.2.2.2 7)), (V.inl t_bool (gl r_.2.2.2 8)), (V.inl t_int' (gl r_.2.2.2 9)), (V.inl t_int' (gl r_.2.2.2 10))]))], 1, []⟩ : St))]) (fun st => ((((gl (bc st 0) 3).length : Nat) : Int) - ((sv st 2).I)).toNat + 1) fun st h => by
      have q := spec_NodeOk_l4_ok (((((gl (bc st 0) 3).length : Nat) : Int) - ((sv st 2).I)).toNat + 1) ((sv st 0).I) ((sv st 2).I) (bc st 0)
      rw [show (⟨[(1, (V.int .i64 ((sv st 0).I))), (2, (V.bp 0 0)), (5, (V.int .i64 ((sv st 2).I)))], [(0, some (Blk.box t_impl_Node [(V.int .i64 (gi (bc st 0) 0)), (V.int .i64 (gi (bc st 0) 1)), (V.int .i64 (gi (bc st 0) 2)), (V.inl t_impl_Item (gl (bc st 0) 3)), (V.int .i64 (gi (bc st 0) 4)), (V.int .i64 (gi (bc st 0) 5)), (V.int .i64 (gi (bc st 0) 6)), (V.int .i64 (gi (bc st 0) 7)), (V.inl t_bool (gl (bc st 0) 8)), (V.inl t_int' (gl (bc st 0) 9)), (V.inl t_int' (gl (bc st 0) 10))]))], 1, []⟩ : St) = st from h] at q
      exact q
  refine GoodAll.cons 1 (by kernel_rfl) ?_ ?_
  · exact good_of (key := 11) (ss := ⟨[(1, (.one (.int .i64))), (2, (.one (.bp 0 0))), (6, (.one (.int .i64)))], [(.box t_impl_Node [(.int .i64), (.int .i64), (.int .i64), (.inl t_impl_Item), (.int .i64), (.int .i64), (.int .i64), (.int .i64), (.inl t_bool), (.inl t_int'), (.inl t_int')])], 1, []⟩) (F := fun st => spec_NodeOk_l11 ((((sv st 0).I) - ((sv st 2).I)).toNat + 1) ((sv st 0).I) ((sv st 2).I) (bc st 0)) (ix := fun r_ => r_.1) (ps := fun r_ => [(Ex.ret, (⟨[(2, (V.bp 0 0)), (4, (V.bool r_.2.1))], [(0, some (Blk.box t_impl_Node [(V.int .i64 (gi r_.2.2 0)), (V.int .i64 (gi r_.2.2 1)), (V.int .i64 (gi r_.2.2 2)), (V.inl t_impl_Item (gl r_.2.2 3)), (V.int .i64 (gi r_.2.2 4)), (V.int .i64 (gi r_.2.2 5)), (V.int .i64 (gi r_.2.2 6)), (V.int .i64 (gi r_.2.2 7)), (V.inl t_bool (gl r_.2.2 8)), (V.inl t_int' (gl r_.2.2 9)), (V.inl t_int' (gl r_.2.2 10))]))], 1, []⟩ : St)), ((Ex.exit 2), (⟨[(2, (V.bp 0 0)), (4, V.dead)], [(0, some (Blk.box t_impl_Node [(V.int .i64 (gi r_.2.2 0)), (V.int .i64 (gi r_.2.2 1)), (V.int .i64 (gi r_.2.2 2)), (V.inl t_impl_Item (gl r_.2.2 3)), (V.int .i64 (gi r_.2.2 4)), (V.int .i64 (gi r_.2.2 5)), (V.int .i64 (gi r_.2.2 6)), (V.int .i64 (gi r_.2.2 7)), (V.inl t_bool (gl r_.2.2 8)), (V.inl t_int' (gl r_.2.2 9)), (V.inl t_int' (gl r_.2.2 10))]))], 1, []⟩ : St))]) (fun st => (((sv st 0).I) - ((sv st 2).I)).toNat + 1) fun st h => by
      have q := spec_NodeOk_l11_ok ((((sv st 0).I) - ((sv st 2).I)).toNat + 1) ((sv st 0).I) ((sv st 2).I) (bc st 0)
      rw [show (⟨[(1, (V.int .i64 ((sv st 0).I))), (2, (V.bp 0 0)), (6, (V.int .i64 ((sv st 2).I)))], [(0, some (Blk.box t_impl_Node [(V.int .i64 (gi (bc st 0) 0)), (V.int .i64 (gi (bc st 0) 1)), (V.int .i64 (gi (bc st 0) 2)), (V.inl t_impl_Item (gl (bc st 0) 3)), (V.int .i64 (gi (bc st 0) 4)), (V.int .i64 (gi (bc st 0) 5)), (V.int .i64 (gi (bc st 0) 6)), (V.int .i64 (gi (bc st 0) 7)), (V.inl t_bool (gl (bc st 0) 8)), (V.inl t_int' (gl (bc st 0) 9)), (V.inl t_int' (gl (bc st 0) 10))]))], 1, []⟩ : St) = st from h] at q
      exact q
  exact GoodAll.nil
def spec_NodeOk_sh (r_ : Bool) : V × List V := ((V.bool r_), [])
set_option maxRecDepth 100000 in
theorem spec_NodeOk_e (n : V) (servers : Int) : Agr (wkF [[.dead]] []) spec_NodeOk_sh (spec_NodeOk n servers) (evalFn spec_NodeOk_c spec_NodeOk_L Try.f33 [(n_impl_Node n), (V.int .i64 servers)]) := by
  have h : evalFn spec_NodeOk_c spec_NodeOk_L Try.f33 [(n_impl_Node n), (V.int .i64 servers)] = (bif (!(spec_l4servers servers)) then some ((V.bool false), []) else bif (decide ((gi n 0) < 0)) then some ((V.bool false), []) else bif (decide (servers ≤ (gi n 0))) then some ((V.bool false), []) else bif (!(spec_l3term (gi n 1))) then some ((V.bool false), []) else bif (!(spec_l4who (gi n 2) servers)) then some ((V.bool false), []) else bif (decide ((400 : Int) < (((gl n 3).length : Nat) : Int))) then some ((V.bool false), []) else bif (decide ((gi n 4) < 0)) then some ((V.bool false), []) else bif (decide ((((gl n 3).length : Nat) : Int) < (gi n 4))) then some ((V.bool false), []) else bif (decide ((gi n 5) < 0)) then some ((V.bool false), []) else bif (decide ((2 : Int) < (gi n 5))) then some ((V.bool false), []) else bif (!(spec_l4who (gi n 6) servers)) then some ((V.bool false), []) else bif (decide ((gi n 7) < 0)) then some ((V.bool false), []) else bif (decide ((20 : Int) < (gi n 7))) then some ((V.bool false), []) else bif (!(decide ((((gl n 8).length : Nat) : Int) = servers))) then some ((V.bool false), []) else bif (!(decide ((((gl n 9).length : Nat) : Int) = servers))) then some ((V.bool false), []) else bif (!(decide ((((gl n 10).length : Nat) : Int) = servers))) then some ((V.bool false), []) else rcall (spec_NodeOk_l4 (((((gl (n_impl_Node n) 3).length : Nat) : Int) - 0).toNat + 1) servers 0 (n_impl_Node n)) fun r28 => bif (Nat.beq r28.1 0) then some ((V.bool r28.2.2.1), []) else bif (!(decide ((gi r28.2.2.2 5) = 0))) then bif (decide ((gi r28.2.2.2 1) < 1)) then some ((V.bool false), []) else bif (!(decide ((gi r28.2.2.2 2) = (gi r28.2.2.2 0)))) then some ((V.bool false), []) else rcall (spec_NodeOk_l11 ((r28.2.1 - 0).toNat + 1) r28.2.1 0 (n_impl_Node r28.2.2.2)) fun r29 => bif (Nat.beq r29.1 0) then some ((V.bool r29.2.1), []) else bif (!(decide ((gi r29.2.2 5) = 2))) then some ((V.bool true), []) else some ((V.bool (decide ((gi r29.2.2 6) = (gi r29.2.2 0)))), []) else rcall (spec_NodeOk_l11 ((r28.2.1 - 0).toNat + 1) r28.2.1 0 (n_impl_Node r28.2.2.2)) fun r30 => bif (Nat.beq r30.1 0) then some ((V.bool r30.2.1), []) else bif (!(decide ((gi r30.2.2 5) = 2))) then some ((V.bool true), []) else some ((V.bool (decide ((gi r30.2.2 6) = (gi r30.2.2 0)))), [])) := by kernel_rfl
  rw [h, spec_NodeOk]
  clear h
  repeat' (first | exact agr_none | refine agr_if ?_ ?_ | refine agr_call fun _ => ?_ | refine agr_let fun _ => ?_ | exact agr_leaf (by kernel_rfl))
def spec_NodeOk_s (args : List V) : Option (Bool × (V × List V)) := bif argsOk [(.agg [(.int .i64), (.int .i64), (.int .i64), (.inl t_impl_Item), (.int .i64), (.int .i64), (.int .i64), (.int .i64), (.inl t_bool), (.inl t_int'), (.inl t_int')]), (.one (.int .i64))] args then some ((spec_NodeOk (rd args 0) ((rd args 1).I)).isSome, spec_NodeOk_sh ((spec_NodeOk (rd args 0) ((rd args 1).I)).getD default)) else none
theorem spec_NodeOk_s_ok : ∀ args r, spec_NodeOk_s args = some (true, r) → SumOk Try.prog tab 33 args r :=
  Base.sum (cfg := spec_NodeOk_c) (F := fun args => spec_NodeOk (rd args 0) ((rd args 1).I)) (shr := spec_NodeOk_sh) base spec_NodeOk_c_ok Try.func33 (by kernel_rfl) spec_NodeOk_lo [(.agg [(.int .i64), (.int .i64), (.int .i64), (.inl t_impl_Item), (.int .i64), (.int .i64), (.int .i64), (.int .i64), (.inl t_bool), (.inl t_int'), (.inl t_int')]), (.one (.int .i64))] (by kernel_rfl) [[.dead]] [] (by kernel_rfl) fun args h => by
    have q := spec_NodeOk_e (rd args 0) ((rd args 1).I)
    rw [show [(n_impl_Node (rd args 0)), (V.int .i64 ((rd args 1).I))] = args from h] at q
    exact q
def spec_l4new_c : Cfg := ⟨tab, sumsOf [], fun _ => false, fun f => (look [] f).getD [], false⟩
theorem spec_l4new_c_ok : SumsOk Try.prog tab spec_l4new_c.sums := sums_nil
def spec_l4new_L : Loops := ⟨fun k => (look [] k).getD [], fun k => (look [] k).getD [], fun k => (look [] k).getD [], runL []⟩
def spec_l4new_sh (r_ : V) : V × List V := ((V.agg [(V.int .i64 (gi r_ 0)), (V.int .i64 (gi r_ 1)), (V.int .i64 (gi r_ 2)), (V.rr t_impl_Item true (gl r_ 3)), (V.int .i64 (gi r_ 4)), (V.int .i64 (gi r_ 5)), (V.int .i64 (gi r_ 6)), (V.int .i64 (gi r_ 7)), (V.rr t_bool true (gl r_ 8)), (V.rr t_int' true (gl r_ 9)), (V.rr t_int' true (gl r_ 10))]), [])
theorem spec_l4new_e (id : Int) (servers : Int) : Agr (wkF [[.dead, .dead, .dead, (.rr t_impl_Item true), .dead, .dead, .dead, .dead, (.rr t_bool true), (.rr t_int' true), (.rr t_int' true)]] []) spec_l4new_sh (spec_l4new id servers) (evalFn spec_l4new_c spec_l4new_L Try.f41 [(V.int .i64 id), (V.int .i64 servers)]) := by
  have h : evalFn spec_l4new_c spec_l4new_L Try.f41 [(V.int .i64 id), (V.int .i64 servers)] = (bif (((decide ((0 : Int) ≤ servers)) && decide (servers = servers)) && (roomy servers.toNat 1)) then bif (((decide ((0 : Int) ≤ servers)) && decide (servers = servers)) && (roomy servers.toNat 8)) then bif (((decide ((0 : Int) ≤ servers)) && decide (servers = servers)) && (roomy servers.toNat 8)) then some ((V.agg [(V.int .i64 id), (V.int .i64 0), (V.int .i64 (-1)), (V.nil t_impl_Item), (V.int .i64 0), (V.int .i64 0), (V.int .i64 (-1)), (V.int .i64 0), (V.rr t_bool true (List.replicate servers.toNat (V.bool false))), (V.rr t_int' true (List.replicate servers.toNat (V.int .i64 0))), (V.rr t_int' true (List.replicate servers.toNat (V.int .i64 0)))]), []) else none else none else none) := by kernel_rfl
  rw [h, spec_l4new]
  clear h
  repeat' (first | exact agr_none | refine agr_if ?_ ?_ | refine agr_call fun _ => ?_ | refine agr_let fun _ => ?_ | exact agr_leaf (by kernel_rfl))
def spec_l4new_s (args : List V) : Option (Bool × (V × List V)) := bif argsOk [(.one (.int .i64)), (.one (.int .i64))] args then some ((spec_l4new ((rd args 0).I) ((rd args 1).I)).isSome, spec_l4new_sh ((spec_l4new ((rd args 0).I) ((rd args 1).I)).getD default)) else none
theorem spec_l4new_s_ok : ∀ args r, spec_l4new_s args = some (true, r) → SumOk Try.prog tab 41 args r :=
  Base.sum (cfg := spec_l4new_c) (F := fun args => spec_l4new ((rd args 0).I) ((rd args 1).I)) (shr := spec_l4new_sh) base spec_l4new_c_ok Try.func41 (by kernel_rfl) (GoodAll.ok (l := []) GoodAll.nil rfl) [(.one (.int .i64)), (.one (.int .i64))] (by kernel_rfl) [[.dead, .dead, .dead, (.rr t_impl_Item true), .dead, .dead, .dead, .dead, (.rr t_bool true), (.rr t_int' true), (.rr t_int' true)]] [] (by kernel_rfl) fun args h => by
    have q := spec_l4new_e ((rd args 0).I) ((rd args 1).I)
    rw [show [(V.int .i64 ((rd args 0).I)), (V.int .i64 ((rd args 1).I))] = args from h] at q
    exact q
def spec_l3ownItem_c : Cfg := ⟨tab, sumsOf [], fun _ => false, fun f => (look [] f).getD [], false⟩
theorem spec_l3ownItem_c_ok : SumsOk Try.prog tab spec_l3ownItem_c.sums := sums_nil
def spec_l3ownItem_L : Loops := ⟨fun k => (look [] k).getD [], fun k => (look [] k).getD [], fun k => (look [] k).getD [], runL []⟩
def spec_l3ownItem_sh (r_ : V) : V × List V := ((V.agg [(V.int .i64 (gi r_ 0)), (V.int .i64 (gi r_ 1)), (V.int .i64 (gi r_ 2)), (V.int .i64 (gi r_ 3)), (V.rr t_byte true (gl r_ 4)), (V.rr t_byte true (gl r_ 5)), (V.int .i64 (gi r_ 6))]), [])
theorem spec_l3ownItem_e (x : V) : Agr (wkF [[.dead, .dead, .dead, .dead, (.rr t_byte true), (.rr t_byte true), .dead]] []) spec_l3ownItem_sh (spec_l3ownItem x) (evalFn spec_l3ownItem_c spec_l3ownItem_L Try.f96 [(n_impl_Item x)]) := by
  have h : evalFn spec_l3ownItem_c spec_l3ownItem_L Try.f96 [(n_impl_Item x)] = (bif ((roomy (0 + ((gl x 4).length)) 1) && true) then bif ((roomy (0 + ((gl x 5).length)) 1) && true) then some ((V.agg [(V.int .i64 (gi x 0)), (V.int .i64 (gi x 1)), (V.int .i64 (gi x 2)), (V.int .i64 (gi x 3)), (V.rr t_byte true (gl x 4)), (V.rr t_byte true (gl x 5)), (V.int .i64 (gi x 6))]), []) else none else none) := by kernel_rfl
  rw [h, spec_l3ownItem]
  clear h
  repeat' (first | exact agr_none | refine agr_if ?_ ?_ | refine agr_call fun _ => ?_ | refine agr_let fun _ => ?_ | exact agr_leaf (by kernel_rfl))
def spec_l3ownItem_s (args : List V) : Option (Bool × (V × List V)) := bif argsOk [(.agg [(.int .i64), (.int .i64), (.int .i64), (.int .i64), (.inl t_byte), (.inl t_byte), (.int .i64)])] args then some ((spec_l3ownItem (rd args 0)).isSome, spec_l3ownItem_sh ((spec_l3ownItem (rd args 0)).getD default)) else none
theorem spec_l3ownItem_s_ok : ∀ args r, spec_l3ownItem_s args = some (true, r) → SumOk Try.prog tab 96 args r :=
  Base.sum (cfg := spec_l3ownItem_c) (F := fun args => spec_l3ownItem (rd args 0)) (shr := spec_l3ownItem_sh) base spec_l3ownItem_c_ok Try.func96 (by kernel_rfl) (GoodAll.ok (l := []) GoodAll.nil rfl) [(.agg [(.int .i64), (.int .i64), (.int .i64), (.int .i64), (.inl t_byte), (.inl t_byte), (.int .i64)])] (by kernel_rfl) [[.dead, .dead, .dead, .dead, (.rr t_byte true), (.rr t_byte true), .dead]] [] (by kernel_rfl) fun args h => by
    have q := spec_l3ownItem_e (rd args 0)
    rw [show [(n_impl_Item (rd args 0))] = args from h] at q
    exact q
def spec_l3ownItems_c : Cfg := ⟨tab, sumsOf [(96, spec_l3ownItem_s)], fun _ => false, fun f => (look [(96, [none])] f).getD [], false⟩
theorem spec_l3ownItems_c_ok : SumsOk Try.prog tab spec_l3ownItems_c.sums := sums_cons f96_en spec_l3ownItem_s_ok (sums_nil)
def spec_l3ownItems_l3_e : LE := ⟨3, ⟨[(0, (.one (.inl t_impl_Item))), (3, (.one (.sl 0 t_impl_Item))), (4, (.one (.int .i64)))], [(.row t_impl_Item true)], 1, []⟩, fun st => Out.tst (spec_l3ownItems_l3 ((((((sv st 0).L).length : Nat) : Int) - ((sv st 2).I)).toNat + 1) ((sv st 0).L) ((sv st 2).I) (br st 0)).isSome (brs ((fun r_ => 0) ((spec_l3ownItems_l3 ((((((sv st 0).L).length : Nat) : Int) - ((sv st 2).I)).toNat + 1) ((sv st 0).L) ((sv st 2).I) (br st 0)).getD default)) 0 ((fun r_ => [((Ex.exit 0), (⟨[(3, (V.sl 0 t_impl_Item 0 none))], [(0, some (Blk.row t_impl_Item true r_))], 1, []⟩ : St))]) ((spec_l3ownItems_l3 ((((((sv st 0).L).length : Nat) : Int) - ((sv st 2).I)).toNat + 1) ((sv st 0).L) ((sv st 2).I) (br st 0)).getD default)))⟩
def spec_l3ownItems_L : Loops := ⟨fun k => (look [(3, [0, 3, 4])] k).getD [], fun k => (look [(3, [⟨3, none, true⟩])] k).getD [], fun k => (look [(3, [3])] k).getD [], runL [spec_l3ownItems_l3_e]⟩
theorem spec_l3ownItems_l3_ok (k_ : Nat) : ∀ (l0 : List V) (i4 : Int) (r0 : List V), Agr id (fun r_ => pick (0) 0 [((Ex.exit 0), (⟨[(3, (V.sl 0 t_impl_Item 0 none))], [(0, some (Blk.row t_impl_Item true r_))], 1, []⟩ : St))]) (spec_l3ownItems_l3 k_ l0 i4 r0) (rounds spec_l3ownItems_c spec_l3ownItems_L ((loopsIn (bodyOf Try.f42)).getD 0 .skip) k_ (⟨[(0, (V.inl t_impl_Item l0)), (3, (V.sl 0 t_impl_Item 0 none)), (4, (V.int .i64 i4))], [(0, some (Blk.row t_impl_Item true r0))], 1, []⟩ : St)) := by
  induction k_ with
  | zero => intros; exact agr_none
  | succ k_ ih =>
    intro l0 i4 r0
    have h : rounds spec_l3ownItems_c spec_l3ownItems_L ((loopsIn (bodyOf Try.f42)).getD 0 .skip) (k_ + 1) (⟨[(0, (V.inl t_impl_Item l0)), (3, (V.sl 0 t_impl_Item 0 none)), (4, (V.int .i64 i4))], [(0, some (Blk.row t_impl_Item true r0))], 1, []⟩ : St) = (bif (decide (i4 < ((l0.length : Nat) : Int))) then bif (idxOk i4 l0.length) then rcall (spec_l3ownItem (n_impl_Item (rd l0 i4.toNat))) fun r33 => bif ((roomy (r0.length + 1) 88) && true) then rounds spec_l3ownItems_c spec_l3ownItems_L ((loopsIn (bodyOf Try.f42)).getD 0 .skip) k_ (⟨[(0, (V.inl t_impl_Item l0)), (3, (V.sl 0 t_impl_Item 0 none)), (4, (V.int .i64 (IntKind.i64.wrap (i4 + 1))))], [(0, some (Blk.row t_impl_Item true (r0 ++ [(n_impl_Item r33)])))], 1, []⟩ : St) else none else none else some ((Ex.exit 0), (⟨[(3, (V.sl 0 t_impl_Item 0 none))], [(0, some (Blk.row t_impl_Item true r0))], 1, []⟩ : St))) := by kernel_rfl
    rw [h, spec_l3ownItems_l3]
    clear h
    repeat' (first | exact agr_none | refine agr_if ?_ ?_ | refine agr_call fun _ => ?_ | refine agr_let fun _ => ?_ | exact agr_leaf (by kernel_rfl) | exact ih _ _ _)
theorem spec_l3ownItems_lo : LoopsOk spec_l3ownItems_c spec_l3ownItems_L (bodyOf Try.f42) := by
  refine GoodAll.ok (l := [spec_l3ownItems_l3_e]) ?_ rfl
  refine GoodAll.cons 0 (by kernel_rfl) ?_ ?_
  · exact good_of (key := 3) (ss := ⟨[(0, (.one (.inl t_impl_Item))), (3, (.one (.sl 0 t_impl_Item))), (4, (.one (.int .i64)))], [(.row t_impl_Item true)], 1, []⟩) (F := fun st => spec_l3ownItems_l3 ((((((sv st 0).L).length : Nat) : Int) - ((sv st 2).I)).toNat + 1) ((sv st 0).L) ((sv st 2).I) (br st 0)) (ix := fun r_ => 0) (ps := fun r_ => [((Ex.exit 0), (⟨[(3, (V.sl 0 t_impl_Item 0 none))], [(0, some (Blk.row t_impl_Item true r_))], 1, []⟩ : St))]) (fun st => (((((sv st 0).L).length : Nat) : Int) - ((sv st 2).I)).toNat + 1) fun st h => by
      have q := spec_l3ownItems_l3_ok ((((((sv st 0).L).length : Nat) : Int) - ((sv st 2).I)).toNat + 1) ((sv st 0).L) ((sv st 2).I) (br st 0)
      rw [show (⟨[(0, (V.inl t_impl_Item ((sv st 0).L))), (3, (V.sl 0 t_impl_Item 0 none)), (4, (V.int .i64 ((sv st 2).I)))], [(0, some (Blk.row t_impl_Item true (br st 0)))], 1, []⟩ : St) = st from h] at q
      exact q
  exact GoodAll.nil
def spec_l3ownItems_sh (r_ : List V) : V × List V := ((V.rr t_impl_Item true r_), [])
theorem spec_l3ownItems_e (l : List V) : Agr (wkF [[(.rr t_impl_Item true)]] []) spec_l3ownItems_sh (spec_l3ownItems l) (evalFn spec_l3ownItems_c spec_l3ownItems_L Try.f42 [(V.inl t_impl_Item l)]) := by
  have h : evalFn spec_l3ownItems_c spec_l3ownItems_L Try.f42 [(V.inl t_impl_Item l)] = (rcall (spec_l3ownItems_l3 ((((l.length : Nat) : Int) - 0).toNat + 1) l 0 []) fun r34 => some ((V.rr t_impl_Item true r34), [])) := by kernel_rfl
  rw [h, spec_l3ownItems]
  clear h
  repeat' (first | exact agr_none | refine agr_if ?_ ?_ | refine agr_call fun _ => ?_ | refine agr_let fun _ => ?_ | exact agr_leaf (by kernel_rfl))
def spec_l3ownItems_s (args : List V) : Option (Bool × (V × List V)) := bif argsOk [(.one (.inl t_impl_Item))] args then some ((spec_l3ownItems ((rd args 0).L)).isSome, spec_l3ownItems_sh ((spec_l3ownItems ((rd args 0).L)).getD default)) else none
theorem spec_l3ownItems_s_ok : ∀ args r, spec_l3ownItems_s args = some (true, r) → SumOk Try.prog tab 42 args r :=
  Base.sum (cfg := spec_l3ownItems_c) (F := fun args => spec_l3ownItems ((rd args 0).L)) (shr := spec_l3ownItems_sh) base spec_l3ownItems_c_ok Try.func42 (by kernel_rfl) spec_l3ownItems_lo [(.one (.inl t_impl_Item))] (by kernel_rfl) [[(.rr t_impl_Item true)]] [] (by kernel_rfl) fun args h => by
    have q := spec_l3ownItems_e ((rd args 0).L)
    rw [show [(V.inl t_impl_Item ((rd args 0).L))] = args from h] at q
    exact q
end Go.Eng.R
open Go Go.Eng Go.Proofs
namespace Go.Eng.R
def spec_Fall_c : Cfg := ⟨tab, sumsOf [(33, spec_NodeOk_s), (41, spec_l4new_s), (42, spec_l3ownItems_s)], fun _ => false, fun f => (look [(33, [none, none]), (41, [none, none]), (42, [some t_impl_Item])] f).getD [], false⟩
theorem spec_Fall_c_ok : SumsOk Try.prog tab spec_Fall_c.sums := sums_cons f33_en spec_NodeOk_s_ok (sums_cons f41_en spec_l4new_s_ok (sums_cons f42_en spec_l3ownItems_s_ok (sums_nil)))
def spec_Fall_L : Loops := ⟨fun k => (look [] k).getD [], fun k => (look [] k).getD [], fun k => (look [] k).getD [], runL []⟩
def spec_Fall_sh (r_ : V) : V × List V := ((V.agg [(V.int .i64 (gi r_ 0)), (V.int .i64 (gi r_ 1)), (V.int .i64 (gi r_ 2)), (V.rr t_impl_Item true (gl r_ 3)), (V.int .i64 (gi r_ 4)), (V.int .i64 (gi r_ 5)), (V.int .i64 (gi r_ 6)), (V.int .i64 (gi r_ 7)), (V.rr t_bool true (gl r_ 8)), (V.rr t_int' true (gl r_ 9)), (V.rr t_int' true (gl r_ 10))]), [])
theorem spec_Fall_e (n : V) (servers : Int) : Agr (wkF [[.dead, .dead, .dead, (.rr t_impl_Item true), .dead, .dead, .dead, .dead, (.rr t_bool true), (.rr t_int' true), (.rr t_int' true)]] []) spec_Fall_sh (spec_Fall n servers) (evalFn spec_Fall_c spec_Fall_L Try.f9 [(n_impl_Node n), (V.int .i64 servers)]) := by
  have h : evalFn spec_Fall_c spec_Fall_L Try.f9 [(n_impl_Node n), (V.int .i64 servers)] = (rcall (spec_NodeOk (n_impl_Node n) servers) fun r31 => bif (!r31) then some ((V.agg [(V.int .i64 0), (V.int .i64 0), (V.int .i64 0), (V.nil t_impl_Item), (V.int .i64 0), (V.int .i64 0), (V.int .i64 0), (V.int .i64 0), (V.nil t_bool), (V.nil t_int'), (V.nil t_int')]), []) else rcall (spec_l4new (gi n 0) servers) fun r32 => rcall (spec_l3ownItems (gl n 3)) fun r35 => some ((V.agg [(V.int .i64 (gi r32 0)), (V.int .i64 (gi n 1)), (V.int .i64 (gi n 2)), (V.rr t_impl_Item true r35), (V.int .i64 (gi r32 4)), (V.int .i64 (gi r32 5)), (V.int .i64 (gi r32 6)), (V.int .i64 (gi r32 7)), (V.rr t_bool true (gl r32 8)), (V.rr t_int' true (gl r32 9)), (V.rr t_int' true (gl r32 10))]), [])) := by kernel_rfl
  rw [h, spec_Fall]
  clear h
  repeat' (first | exact agr_none | refine agr_if ?_ ?_ | refine agr_call fun _ => ?_ | refine agr_let fun _ => ?_ | exact agr_leaf (by kernel_rfl))
def spec_Fall_s (args : List V) : Option (Bool × (V × List V)) := bif argsOk [(.agg [(.int .i64), (.int .i64), (.int .i64), (.inl t_impl_Item), (.int .i64), (.int .i64), (.int .i64), (.int .i64), (.inl t_bool), (.inl t_int'), (.inl t_int')]), (.one (.int .i64))] args then some ((spec_Fall (rd args 0) ((rd args 1).I)).isSome, spec_Fall_sh ((spec_Fall (rd args 0) ((rd args 1).I)).getD default)) else none
theorem spec_Fall_s_ok : ∀ args r, spec_Fall_s args = some (true, r) → SumOk Try.prog tab 9 args r :=
  Base.sum (cfg := spec_Fall_c) (F := fun args => spec_Fall (rd args 0) ((rd args 1).I)) (shr := spec_Fall_sh) base spec_Fall_c_ok Try.func9 (by kernel_rfl) (GoodAll.ok (l := []) GoodAll.nil rfl) [(.agg [(.int .i64), (.int .i64), (.int .i64), (.inl t_impl_Item), (.int .i64), (.int .i64), (.int .i64), (.int .i64), (.inl t_bool), (.inl t_int'), (.inl t_int')]), (.one (.int .i64))] (by kernel_rfl) [[.dead, .dead, .dead, (.rr t_impl_Item true), .dead, .dead, .dead, .dead, (.rr t_bool true), (.rr t_int' true), (.rr t_int' true)]] [] (by kernel_rfl) fun args h => by
    have q := spec_Fall_e (rd args 0) ((rd args 1).I)
    rw [show [(n_impl_Node (rd args 0)), (V.int .i64 ((rd args 1).I))] = args from h] at q
    exact q
def impl_within_c : Cfg := ⟨tab, sumsOf [], fun _ => false, fun f => (look [] f).getD [], false⟩
theorem impl_within_c_ok : SumsOk Try.prog tab impl_within_c.sums := sums_nil
def impl_within_L : Loops := ⟨fun k => (look [] k).getD [], fun k => (look [] k).getD [], fun k => (look [] k).getD [], runL []⟩
def impl_within_sh (r_ : Bool) : V × List V := ((V.bool r_), [])
theorem impl_within_e (n : Int) (low : Int) (high : Int) : Tot (wkF [[.dead]] []) impl_within_sh (impl_within n low high) (evalFn impl_within_c impl_within_L Try.f90 [(V.int .i64 n), (V.int .i64 low), (V.int .i64 high)]) := by
  have h : evalFn impl_within_c impl_within_L Try.f90 [(V.int .i64 n), (V.int .i64 low), (V.int .i64 high)] = (bif (decide (low ≤ n)) then some ((V.bool (decide (n ≤ high))), []) else some ((V.bool false), [])) := by kernel_rfl
  rw [h, impl_within]
  clear h
  repeat' (first | refine tot_if ?_ ?_ | refine tot_let fun _ => ?_ | exact tot_leaf (by kernel_rfl))
def impl_within_s (args : List V) : Option (Bool × (V × List V)) := bif argsOk [(.one (.int .i64)), (.one (.int .i64)), (.one (.int .i64))] args then some (true, impl_within_sh (impl_within ((rd args 0).I) ((rd args 1).I) ((rd args 2).I))) else none
theorem impl_within_s_ok : ∀ args r, impl_within_s args = some (true, r) → SumOk Try.prog tab 90 args r :=
  Base.sumT (cfg := impl_within_c) (F := fun args => impl_within ((rd args 0).I) ((rd args 1).I) ((rd args 2).I)) (shr := impl_within_sh) base impl_within_c_ok Try.func90 (by kernel_rfl) (GoodAll.ok (l := []) GoodAll.nil rfl) [(.one (.int .i64)), (.one (.int .i64)), (.one (.int .i64))] (by kernel_rfl) [[.dead]] [] (by kernel_rfl) fun args h => by
    have q := impl_within_e ((rd args 0).I) ((rd args 1).I) ((rd args 2).I)
    rw [show [(V.int .i64 ((rd args 0).I)), (V.int .i64 ((rd args 1).I)), (V.int .i64 ((rd args 2).I))] = args from h] at q
    exact q
def impl_isServer_c : Cfg := ⟨tab, sumsOf [(90, impl_within_s)], fun _ => false, fun f => (look [(90, [none, none, none])] f).getD [], false⟩
theorem impl_isServer_c_ok : SumsOk Try.prog tab impl_isServer_c.sums := sums_cons f90_en impl_within_s_ok (sums_nil)
def impl_isServer_L : Loops := ⟨fun k => (look [] k).getD [], fun k => (look [] k).getD [], fun k => (look [] k).getD [], runL []⟩
def impl_isServer_sh (r_ : Bool) : V × List V := ((V.bool r_), [])
theorem impl_isServer_e (id : Int) (servers : Int) : Tot (wkF [[.dead]] []) impl_isServer_sh (impl_isServer id servers) (evalFn impl_isServer_c impl_isServer_L Try.f89 [(V.int .i64 id), (V.int .i64 servers)]) := by
  have h : evalFn impl_isServer_c impl_isServer_L Try.f89 [(V.int .i64 id), (V.int .i64 servers)] = (bif impl_within servers 1 5 then some ((V.bool (impl_within id 0 (IntKind.i64.wrap (servers - 1)))), []) else some ((V.bool false), [])) := by kernel_rfl
  rw [h, impl_isServer]
  clear h
  repeat' (first | refine tot_if ?_ ?_ | refine tot_let fun _ => ?_ | exact tot_leaf (by kernel_rfl))
def impl_isServer_s (args : List V) : Option (Bool × (V × List V)) := bif argsOk [(.one (.int .i64)), (.one (.int .i64))] args then some (true, impl_isServer_sh (impl_isServer ((rd args 0).I) ((rd args 1).I))) else none
theorem impl_isServer_s_ok : ∀ args r, impl_isServer_s args = some (true, r) → SumOk Try.prog tab 89 args r :=
  Base.sumT (cfg := impl_isServer_c) (F := fun args => impl_isServer ((rd args 0).I) ((rd args 1).I)) (shr := impl_isServer_sh) base impl_isServer_c_ok Try.func89 (by kernel_rfl) (GoodAll.ok (l := []) GoodAll.nil rfl) [(.one (.int .i64)), (.one (.int .i64))] (by kernel_rfl) [[.dead]] [] (by kernel_rfl) fun args h => by
    have q := impl_isServer_e ((rd args 0).I) ((rd args 1).I)
    rw [show [(V.int .i64 ((rd args 0).I)), (V.int .i64 ((rd args 1).I))] = args from h] at q
    exact q
def impl_isTerm_c : Cfg := ⟨tab, sumsOf [(90, impl_within_s)], fun _ => false, fun f => (look [(90, [none, none, none])] f).getD [], false⟩
theorem impl_isTerm_c_ok : SumsOk Try.prog tab impl_isTerm_c.sums := sums_cons f90_en impl_within_s_ok (sums_nil)
def impl_isTerm_L : Loops := ⟨fun k => (look [] k).getD [], fun k => (look [] k).getD [], fun k => (look [] k).getD [], runL []⟩
def impl_isTerm_sh (r_ : Bool) : V × List V := ((V.bool r_), [])
theorem impl_isTerm_e (n : Int) : Tot (wkF [[.dead]] []) impl_isTerm_sh (impl_isTerm n) (evalFn impl_isTerm_c impl_isTerm_L Try.f94 [(V.int .i64 n)]) := by
  have h : evalFn impl_isTerm_c impl_isTerm_L Try.f94 [(V.int .i64 n)] = (some ((V.bool (impl_within n 1 100000)), [])) := by kernel_rfl
  rw [h, impl_isTerm]
  clear h
  repeat' (first | refine tot_if ?_ ?_ | refine tot_let fun _ => ?_ | exact tot_leaf (by kernel_rfl))
def impl_isTerm_s (args : List V) : Option (Bool × (V × List V)) := bif argsOk [(.one (.int .i64))] args then some (true, impl_isTerm_sh (impl_isTerm ((rd args 0).I))) else none
theorem impl_isTerm_s_ok : ∀ args r, impl_isTerm_s args = some (true, r) → SumOk Try.prog tab 94 args r :=
  Base.sumT (cfg := impl_isTerm_c) (F := fun args => impl_isTerm ((rd args 0).I)) (shr := impl_isTerm_sh) base impl_isTerm_c_ok Try.func94 (by kernel_rfl) (GoodAll.ok (l := []) GoodAll.nil rfl) [(.one (.int .i64))] (by kernel_rfl) [[.dead]] [] (by kernel_rfl) fun args h => by
    have q := impl_isTerm_e ((rd args 0).I)
    rw [show [(V.int .i64 ((rd args 0).I))] = args from h] at q
    exact q
def impl_noOp_c : Cfg := ⟨tab, sumsOf [], fun _ => false, fun f => (look [] f).getD [], false⟩
theorem impl_noOp_c_ok : SumsOk Try.prog tab impl_noOp_c.sums := sums_nil
def impl_noOp_L : Loops := ⟨fun k => (look [] k).getD [], fun k => (look [] k).getD [], fun k => (look [] k).getD [], runL []⟩
def impl_noOp_sh (r_ : V) : V × List V := ((V.agg [(V.int .i64 (gi r_ 0)), (V.int .i64 (gi r_ 1)), (V.int .i64 (gi r_ 2)), (V.rr t_byte true (gl r_ 3)), (V.rr t_byte true (gl r_ 4)), (V.int .i64 (gi r_ 5))]), [])
theorem impl_noOp_e : Tot (wkF [[.dead, .dead, .dead, (.rr t_byte true), (.rr t_byte true), .dead]] []) impl_noOp_sh (impl_noOp) (evalFn impl_noOp_c impl_noOp_L Try.f110 []) := by
  have h : evalFn impl_noOp_c impl_noOp_L Try.f110 [] = (some ((V.agg [(V.int .i64 (-1)), (V.int .i64 0), (V.int .i64 0), (V.nil t_byte), (V.nil t_byte), (V.int .i64 0)]), [])) := by kernel_rfl
  rw [h, impl_noOp]
  clear h
  repeat' (first | refine tot_if ?_ ?_ | refine tot_let fun _ => ?_ | exact tot_leaf (by kernel_rfl))
def impl_noOp_s (args : List V) : Option (Bool × (V × List V)) := bif argsOk [] args then some (true, impl_noOp_sh impl_noOp) else none
theorem impl_noOp_s_ok : ∀ args r, impl_noOp_s args = some (true, r) → SumOk Try.prog tab 110 args r :=
  Base.sumT (cfg := impl_noOp_c) (F := fun args => impl_noOp) (shr := impl_noOp_sh) base impl_noOp_c_ok Try.func110 (by kernel_rfl) (GoodAll.ok (l := []) GoodAll.nil rfl) [] (by kernel_rfl) [[.dead, .dead, .dead, (.rr t_byte true), (.rr t_byte true), .dead]] [] (by kernel_rfl) fun args h => by
    have q := impl_noOp_e
    rw [show ([] : List V) = args from h] at q
    exact q
def bytes_Equal_c : Cfg := ⟨tab, sumsOf [], fun _ => false, fun f => (look [] f).getD [], false⟩
theorem bytes_Equal_c_ok : SumsOk Try.prog tab bytes_Equal_c.sums := sums_nil
def bytes_Equal_L : Loops := ⟨fun k => (look [] k).getD [], fun k => (look [] k).getD [], fun k => (look [] k).getD [], runL []⟩
def bytes_Equal_sh (r_ : Bool) : V × List V := ((V.bool r_), [])
theorem bytes_Equal_e (a : List V) (b : List V) : Tot (wkF [[.dead]] []) bytes_Equal_sh (bytes_Equal a b) (evalFn bytes_Equal_c bytes_Equal_L Try.f145 [(V.inl t_byte a), (V.inl t_byte b)]) := by
  have h : evalFn bytes_Equal_c bytes_Equal_L Try.f145 [(V.inl t_byte a), (V.inl t_byte b)] = (some ((V.bool (eqList (a.map normB) (b.map normB))), [])) := by kernel_rfl
  rw [h, bytes_Equal]
  clear h
  repeat' (first | refine tot_if ?_ ?_ | refine tot_let fun _ => ?_ | exact tot_leaf (by kernel_rfl))
def bytes_Equal_s (args : List V) : Option (Bool × (V × List V)) := bif argsOk [(.one (.inl t_byte)), (.one (.inl t_byte))] args then some (true, bytes_Equal_sh (bytes_Equal ((rd args 0).L) ((rd args 1).L))) else none
theorem bytes_Equal_s_ok : ∀ args r, bytes_Equal_s args = some (true, r) → SumOk Try.prog tab 145 args r :=
  Base.sumT (cfg := bytes_Equal_c) (F := fun args => bytes_Equal ((rd args 0).L) ((rd args 1).L)) (shr := bytes_Equal_sh) base bytes_Equal_c_ok Try.func145 (by kernel_rfl) (GoodAll.ok (l := []) GoodAll.nil rfl) [(.one (.inl t_byte)), (.one (.inl t_byte))] (by kernel_rfl) [[.dead]] [] (by kernel_rfl) fun args h => by
    have q := bytes_Equal_e ((rd args 0).L) ((rd args 1).L)
    rw [show [(V.inl t_byte ((rd args 0).L)), (V.inl t_byte ((rd args 1).L))] = args from h] at q
    exact q
def impl_Op_same_c : Cfg := ⟨tab, sumsOf [(145, bytes_Equal_s)], fun _ => false, fun f => (look [(145, [some t_byte, some t_byte])] f).getD [], false⟩
theorem impl_Op_same_c_ok : SumsOk Try.prog tab impl_Op_same_c.sums := sums_cons f145_en bytes_Equal_s_ok (sums_nil)
def impl_Op_same_L : Loops := ⟨fun k => (look [] k).getD [], fun k => (look [] k).getD [], fun k => (look [] k).getD [], runL []⟩
def impl_Op_same_sh (r_ : Bool) : V × List V := ((V.bool r_), [])
theorem impl_Op_same_e (o : V) (p : V) : Tot (wkF [[.dead]] []) impl_Op_same_sh (impl_Op_same o p) (evalFn impl_Op_same_c impl_Op_same_L Try.f137 [(n_laws_Op o), (n_laws_Op p)]) := by
  have h : evalFn impl_Op_same_c impl_Op_same_L Try.f137 [(n_laws_Op o), (n_laws_Op p)] = (bif (decide ((gi o 0) = (gi p 0))) then bif bytes_Equal (gl o 1) (gl p 1) then bif bytes_Equal (gl o 2) (gl p 2) then some ((V.bool (decide ((gi o 3) = (gi p 3)))), []) else some ((V.bool false), []) else some ((V.bool false), []) else some ((V.bool false), [])) := by kernel_rfl
  rw [h, impl_Op_same]
  clear h
  repeat' (first | refine tot_if ?_ ?_ | refine tot_let fun _ => ?_ | exact tot_leaf (by kernel_rfl))
def impl_Op_same_s (args : List V) : Option (Bool × (V × List V)) := bif argsOk [(.agg [(.int .i64), (.inl t_byte), (.inl t_byte), (.int .i64)]), (.agg [(.int .i64), (.inl t_byte), (.inl t_byte), (.int .i64)])] args then some (true, impl_Op_same_sh (impl_Op_same (rd args 0) (rd args 1))) else none
theorem impl_Op_same_s_ok : ∀ args r, impl_Op_same_s args = some (true, r) → SumOk Try.prog tab 137 args r :=
  Base.sumT (cfg := impl_Op_same_c) (F := fun args => impl_Op_same (rd args 0) (rd args 1)) (shr := impl_Op_same_sh) base impl_Op_same_c_ok Try.func137 (by kernel_rfl) (GoodAll.ok (l := []) GoodAll.nil rfl) [(.agg [(.int .i64), (.inl t_byte), (.inl t_byte), (.int .i64)]), (.agg [(.int .i64), (.inl t_byte), (.inl t_byte), (.int .i64)])] (by kernel_rfl) [[.dead]] [] (by kernel_rfl) fun args h => by
    have q := impl_Op_same_e (rd args 0) (rd args 1)
    rw [show [(n_laws_Op (rd args 0)), (n_laws_Op (rd args 1))] = args from h] at q
    exact q
def impl_Cmd_same_c : Cfg := ⟨tab, sumsOf [(137, impl_Op_same_s)], fun _ => false, fun f => (look [(137, [none, none])] f).getD [], false⟩
theorem impl_Cmd_same_c_ok : SumsOk Try.prog tab impl_Cmd_same_c.sums := sums_cons f137_en impl_Op_same_s_ok (sums_nil)
def impl_Cmd_same_L : Loops := ⟨fun k => (look [] k).getD [], fun k => (look [] k).getD [], fun k => (look [] k).getD [], runL []⟩
def impl_Cmd_same_sh (r_ : Bool) : V × List V := ((V.bool r_), [])
theorem impl_Cmd_same_e (c : V) (d : V) : Tot (wkF [[.dead]] []) impl_Cmd_same_sh (impl_Cmd_same c d) (evalFn impl_Cmd_same_c impl_Cmd_same_L Try.f109 [(n_laws_Cmd c), (n_laws_Cmd d)]) := by
  have h : evalFn impl_Cmd_same_c impl_Cmd_same_L Try.f109 [(n_laws_Cmd c), (n_laws_Cmd d)] = (bif (decide ((gi c 0) = (gi d 0))) then bif (decide ((gi c 1) = (gi d 1))) then some ((V.bool (impl_Op_same (V.agg [(V.int .i64 (gi c 2)), (V.inl t_byte (gl c 3)), (V.inl t_byte (gl c 4)), (V.int .i64 (gi c 5))]) (V.agg [(V.int .i64 (gi d 2)), (V.inl t_byte (gl d 3)), (V.inl t_byte (gl d 4)), (V.int .i64 (gi d 5))]))), []) else some ((V.bool false), []) else some ((V.bool false), [])) := by kernel_rfl
  rw [h, impl_Cmd_same]
  clear h
  repeat' (first | refine tot_if ?_ ?_ | refine tot_let fun _ => ?_ | exact tot_leaf (by kernel_rfl))
def impl_Cmd_same_s (args : List V) : Option (Bool × (V × List V)) := bif argsOk [(.agg [(.int .i64), (.int .i64), (.int .i64), (.inl t_byte), (.inl t_byte), (.int .i64)]), (.agg [(.int .i64), (.int .i64), (.int .i64), (.inl t_byte), (.inl t_byte), (.int .i64)])] args then some (true, impl_Cmd_same_sh (impl_Cmd_same (rd args 0) (rd args 1))) else none
theorem impl_Cmd_same_s_ok : ∀ args r, impl_Cmd_same_s args = some (true, r) → SumOk Try.prog tab 109 args r :=
  Base.sumT (cfg := impl_Cmd_same_c) (F := fun args => impl_Cmd_same (rd args 0) (rd args 1)) (shr := impl_Cmd_same_sh) base impl_Cmd_same_c_ok Try.func109 (by kernel_rfl) (GoodAll.ok (l := []) GoodAll.nil rfl) [(.agg [(.int .i64), (.int .i64), (.int .i64), (.inl t_byte), (.inl t_byte), (.int .i64)]), (.agg [(.int .i64), (.int .i64), (.int .i64), (.inl t_byte), (.inl t_byte), (.int .i64)])] (by kernel_rfl) [[.dead]] [] (by kernel_rfl) fun args h => by
    have q := impl_Cmd_same_e (rd args 0) (rd args 1)
    rw [show [(n_laws_Cmd (rd args 0)), (n_laws_Cmd (rd args 1))] = args from h] at q
    exact q
def impl_KeyOk_c : Cfg := ⟨tab, sumsOf [(90, impl_within_s)], fun _ => false, fun f => (look [(90, [none, none, none])] f).getD [], false⟩
theorem impl_KeyOk_c_ok : SumsOk Try.prog tab impl_KeyOk_c.sums := sums_cons f90_en impl_within_s_ok (sums_nil)
def impl_KeyOk_l2_e : LE := ⟨2, ⟨[(0, (.one (.inl t_byte))), (5, (.one (.inl t_byte))), (6, (.one (.int .i64))), (7, (.one (.int .i64)))], [], 0, []⟩, fun st => Out.tst (impl_KeyOk_l2 ((((sv st 2).I) - ((sv st 3).I)).toNat + 1) ((sv st 0).L) ((sv st 1).L) ((sv st 2).I) ((sv st 3).I)).isSome (brs ((fun r_ => r_.1) ((impl_KeyOk_l2 ((((sv st 2).I) - ((sv st 3).I)).toNat + 1) ((sv st 0).L) ((sv st 1).L) ((sv st 2).I) ((sv st 3).I)).getD default)) 0 ((fun r_ => [(Ex.ret, (⟨[(0, (V.inl t_byte r_.2.1)), (2, (V.bool r_.2.2))], [], 0, []⟩ : St)), ((Ex.exit 0), (⟨[(0, (V.inl t_byte r_.2.1)), (2, V.dead)], [], 0, []⟩ : St))]) ((impl_KeyOk_l2 ((((sv st 2).I) - ((sv st 3).I)).toNat + 1) ((sv st 0).L) ((sv st 1).L) ((sv st 2).I) ((sv st 3).I)).getD default)))⟩
def impl_KeyOk_L : Loops := ⟨fun k => (look [(2, [0, 5, 6, 7])] k).getD [], fun k => (look [] k).getD [], fun k => (look [(2, [0, 2])] k).getD [], runL [impl_KeyOk_l2_e]⟩
set_option maxRecDepth 100000 in
theorem impl_KeyOk_l2_ok (k_ : Nat) : ∀ (b0 : List V) (v5 : List V) (v6 : Int) (v7 : Int), Agr id (fun r_ => pick (r_.1) 0 [(Ex.ret, (⟨[(0, (V.inl t_byte r_.2.1)), (2, (V.bool r_.2.2))], [], 0, []⟩ : St)), ((Ex.exit 0), (⟨[(0, (V.inl t_byte r_.2.1)), (2, V.dead)], [], 0, []⟩ : St))]) (impl_KeyOk_l2 k_ b0 v5 v6 v7) (rounds impl_KeyOk_c impl_KeyOk_L ((loopsIn (bodyOf Try.f138)).getD 0 .skip) k_ (⟨[(0, (V.inl t_byte b0)), (5, (V.inl t_byte v5)), (6, (V.int .i64 v6)), (7, (V.int .i64 v7))], [], 0, []⟩ : St)) := by
  induction k_ with
  | zero => intros; exact agr_none
  | succ k_ ih =>
    intro b0 v5 v6 v7
    have h : rounds impl_KeyOk_c impl_KeyOk_L ((loopsIn (bodyOf Try.f138)).getD 0 .skip) (k_ + 1) (⟨[(0, (V.inl t_byte b0)), (5, (V.inl t_byte v5)), (6, (V.int .i64 v6)), (7, (V.int .i64 v7))], [], 0, []⟩ : St) = (bif (decide (v7 < v6)) then bif (idxOk v7 v5.length) then bif (decide ((gi (rd v5 v7.toNat) 0) < 97)) then bif (!(decide ((gi (rd v5 v7.toNat) 0) = 47))) then some (Ex.ret, (⟨[(0, (V.inl t_byte b0)), (2, (V.bool false))], [], 0, []⟩ : St)) else rounds impl_KeyOk_c impl_KeyOk_L ((loopsIn (bodyOf Try.f138)).getD 0 .skip) k_ (⟨[(0, (V.inl t_byte b0)), (5, (V.inl t_byte v5)), (6, (V.int .i64 v6)), (7, (V.int .i64 (IntKind.i64.wrap (v7 + 1))))], [], 0, []⟩ : St) else bif (decide ((122 : Int) < (gi (rd v5 v7.toNat) 0))) then bif (!(decide ((gi (rd v5 v7.toNat) 0) = 47))) then some (Ex.ret, (⟨[(0, (V.inl t_byte b0)), (2, (V.bool false))], [], 0, []⟩ : St)) else rounds impl_KeyOk_c impl_KeyOk_L ((loopsIn (bodyOf Try.f138)).getD 0 .skip) k_ (⟨[(0, (V.inl t_byte b0)), (5, (V.inl t_byte v5)), (6, (V.int .i64 v6)), (7, (V.int .i64 (IntKind.i64.wrap (v7 + 1))))], [], 0, []⟩ : St) else rounds impl_KeyOk_c impl_KeyOk_L ((loopsIn (bodyOf Try.f138)).getD 0 .skip) k_ (⟨[(0, (V.inl t_byte b0)), (5, (V.inl t_byte v5)), (6, (V.int .i64 v6)), (7, (V.int .i64 (IntKind.i64.wrap (v7 + 1))))], [], 0, []⟩ : St) else none else some ((Ex.exit 0), (⟨[(0, (V.inl t_byte b0)), (2, V.dead)], [], 0, []⟩ : St))) := by kernel_rfl
    rw [h, impl_KeyOk_l2]
    clear h
    repeat' (first | exact agr_none | refine agr_if ?_ ?_ | refine agr_call fun _ => ?_ | refine agr_let fun _ => ?_ | exact agr_leaf (by kernel_rfl) | exact ih _ _ _ _)
theorem impl_KeyOk_lo : LoopsOk impl_KeyOk_c impl_KeyOk_L (bodyOf Try.f138) := by
  refine GoodAll.ok (l := [impl_KeyOk_l2_e]) ?_ rfl
  refine GoodAll.cons 0 (by kernel_rfl) ?_ ?_
  · exact good_of (key := 2) (ss := ⟨[(0, (.one (.inl t_byte))), (5, (.one (.inl t_byte))), (6, (.one (.int .i64))), (7, (.one (.int .i64)))], [], 0, []⟩) (F := fun st => impl_KeyOk_l2 ((((sv st 2).I) - ((sv st 3).I)).toNat + 1) ((sv st 0).L) ((sv st 1).L) ((sv st 2).I) ((sv st 3).I)) (ix := fun r_ => r_.1) (ps := fun r_ => [(Ex.ret, (⟨[(0, (V.inl t_byte r_.2.1)), (2, (V.bool r_.2.2))], [], 0, []⟩ : St)), ((Ex.exit 0), (⟨[(0, (V.inl t_byte r_.2.1)), (2, V.dead)], [], 0, []⟩ : St))]) (fun st => (((sv st 2).I) - ((sv st 3).I)).toNat + 1) fun st h => by
      have q := impl_KeyOk_l2_ok ((((sv st 2).I) - ((sv st 3).I)).toNat + 1) ((sv st 0).L) ((sv st 1).L) ((sv st 2).I) ((sv st 3).I)
      rw [show (⟨[(0, (V.inl t_byte ((sv st 0).L))), (5, (V.inl t_byte ((sv st 1).L))), (6, (V.int .i64 ((sv st 2).I))), (7, (V.int .i64 ((sv st 3).I)))], [], 0, []⟩ : St) = st from h] at q
      exact q
  exact GoodAll.nil
def impl_KeyOk_sh (r_ : Bool) : V × List V := ((V.bool r_), [])
theorem impl_KeyOk_e (b : List V) : Agr (wkF [[.dead]] []) impl_KeyOk_sh (impl_KeyOk b) (evalFn impl_KeyOk_c impl_KeyOk_L Try.f138 [(V.inl t_byte b)]) := by
  have h : evalFn impl_KeyOk_c impl_KeyOk_L Try.f138 [(V.inl t_byte b)] = (rcall (impl_KeyOk_l2 ((((b.length : Nat) : Int) - 0).toNat + 1) b b ((b.length : Nat) : Int) 0) fun r38 => bif (Nat.beq r38.1 0) then some ((V.bool r38.2.2), []) else some ((V.bool (impl_within ((r38.2.1.length : Nat) : Int) 1 20)), [])) := by kernel_rfl
  rw [h, impl_KeyOk]
  clear h
  repeat' (first | exact agr_none | refine agr_if ?_ ?_ | refine agr_call fun _ => ?_ | refine agr_let fun _ => ?_ | exact agr_leaf (by kernel_rfl))
def impl_KeyOk_s (args : List V) : Option (Bool × (V × List V)) := bif argsOk [(.one (.inl t_byte))] args then some ((impl_KeyOk ((rd args 0).L)).isSome, impl_KeyOk_sh ((impl_KeyOk ((rd args 0).L)).getD default)) else none
theorem impl_KeyOk_s_ok : ∀ args r, impl_KeyOk_s args = some (true, r) → SumOk Try.prog tab 138 args r :=
  Base.sum (cfg := impl_KeyOk_c) (F := fun args => impl_KeyOk ((rd args 0).L)) (shr := impl_KeyOk_sh) base impl_KeyOk_c_ok Try.func138 (by kernel_rfl) impl_KeyOk_lo [(.one (.inl t_byte))] (by kernel_rfl) [[.dead]] [] (by kernel_rfl) fun args h => by
    have q := impl_KeyOk_e ((rd args 0).L)
    rw [show [(V.inl t_byte ((rd args 0).L))] = args from h] at q
    exact q
def impl_isValue_c : Cfg := ⟨tab, sumsOf [], fun _ => false, fun f => (look [] f).getD [], false⟩
theorem impl_isValue_c_ok : SumsOk Try.prog tab impl_isValue_c.sums := sums_nil
def impl_isValue_L : Loops := ⟨fun k => (look [] k).getD [], fun k => (look [] k).getD [], fun k => (look [] k).getD [], runL []⟩
def impl_isValue_sh (r_ : Bool) : V × List V := ((V.bool r_), [])
theorem impl_isValue_e (b : List V) : Tot (wkF [[.dead]] []) impl_isValue_sh (impl_isValue b) (evalFn impl_isValue_c impl_isValue_L Try.f139 [(V.inl t_byte b)]) := by
  have h : evalFn impl_isValue_c impl_isValue_L Try.f139 [(V.inl t_byte b)] = (some ((V.bool (decide (((b.length : Nat) : Int) ≤ 20))), [])) := by kernel_rfl
  rw [h, impl_isValue]
  clear h
  repeat' (first | refine tot_if ?_ ?_ | refine tot_let fun _ => ?_ | exact tot_leaf (by kernel_rfl))
def impl_isValue_s (args : List V) : Option (Bool × (V × List V)) := bif argsOk [(.one (.inl t_byte))] args then some (true, impl_isValue_sh (impl_isValue ((rd args 0).L))) else none
theorem impl_isValue_s_ok : ∀ args r, impl_isValue_s args = some (true, r) → SumOk Try.prog tab 139 args r :=
  Base.sumT (cfg := impl_isValue_c) (F := fun args => impl_isValue ((rd args 0).L)) (shr := impl_isValue_sh) base impl_isValue_c_ok Try.func139 (by kernel_rfl) (GoodAll.ok (l := []) GoodAll.nil rfl) [(.one (.inl t_byte))] (by kernel_rfl) [[.dead]] [] (by kernel_rfl) fun args h => by
    have q := impl_isValue_e ((rd args 0).L)
    rw [show [(V.inl t_byte ((rd args 0).L))] = args from h] at q
    exact q
def impl_OpOk_c : Cfg := ⟨tab, sumsOf [(90, impl_within_s), (138, impl_KeyOk_s), (139, impl_isValue_s)], fun _ => false, fun f => (look [(90, [none, none, none]), (138, [some t_byte]), (139, [some t_byte])] f).getD [], false⟩
theorem impl_OpOk_c_ok : SumsOk Try.prog tab impl_OpOk_c.sums := sums_cons f90_en impl_within_s_ok (sums_cons f138_en impl_KeyOk_s_ok (sums_cons f139_en impl_isValue_s_ok (sums_nil)))
def impl_OpOk_L : Loops := ⟨fun k => (look [] k).getD [], fun k => (look [] k).getD [], fun k => (look [] k).getD [], runL []⟩
def impl_OpOk_sh (r_ : Bool) : V × List V := ((V.bool r_), [])
set_option maxRecDepth 100000 in
theorem impl_OpOk_e (o : V) : Agr (wkF [[.dead]] []) impl_OpOk_sh (impl_OpOk o) (evalFn impl_OpOk_c impl_OpOk_L Try.f111 [(n_laws_Op o)]) := by
  have h : evalFn impl_OpOk_c impl_OpOk_L Try.f111 [(n_laws_Op o)] = (bif (decide ((gi o 0) = 0)) then bif impl_within (gi o 3) 0 0 then bif (decide ((((gl o 1).length : Nat) : Int) = 0)) then some ((V.bool (decide ((((gl o 2).length : Nat) : Int) = 0))), []) else some ((V.bool false), []) else some ((V.bool false), []) else bif (decide ((gi o 0) = 1)) then bif impl_within (gi o 3) 0 0 then rcall (impl_KeyOk (gl o 1)) fun r39 => bif r39 then bif impl_isValue (gl o 2) then some ((V.bool true), []) else some ((V.bool false), []) else some ((V.bool false), []) else some ((V.bool false), []) else bif (decide ((gi o 0) = 2)) then bif impl_within (gi o 3) 0 1000000 then rcall (impl_KeyOk (gl o 1)) fun r40 => bif r40 then bif impl_isValue (gl o 2) then some ((V.bool true), []) else some ((V.bool false), []) else some ((V.bool false), []) else some ((V.bool false), []) else bif (decide ((gi o 0) = 3)) then bif impl_within (gi o 3) 0 0 then rcall (impl_KeyOk (gl o 1)) fun r41 => bif r41 then some ((V.bool (decide ((((gl o 2).length : Nat) : Int) = 0))), []) else some ((V.bool false), []) else some ((V.bool false), []) else bif (decide ((gi o 0) = 4)) then bif impl_within (gi o 3) 0 1 then bif (decide ((((gl o 1).length : Nat) : Int) = 0)) then some ((V.bool (decide ((((gl o 2).length : Nat) : Int) = 0))), []) else some ((V.bool false), []) else some ((V.bool false), []) else bif (decide ((gi o 0) = 5)) then bif impl_within (gi o 3) 1 1000000 then bif (decide ((((gl o 1).length : Nat) : Int) = 0)) then some ((V.bool (decide ((((gl o 2).length : Nat) : Int) = 0))), []) else some ((V.bool false), []) else some ((V.bool false), []) else bif (decide ((gi o 0) = 6)) then bif impl_within (gi o 3) 1 1000000 then rcall (impl_KeyOk (gl o 1)) fun r42 => bif r42 then bif impl_isValue (gl o 2) then some ((V.bool true), []) else some ((V.bool false), []) else some ((V.bool false), []) else some ((V.bool false), []) else bif (decide ((gi o 0) = 7)) then bif impl_within (gi o 3) 1 1000000 then rcall (impl_KeyOk (gl o 1)) fun r43 => bif r43 then some ((V.bool (decide ((((gl o 2).length : Nat) : Int) = 0))), []) else some ((V.bool false), []) else some ((V.bool false), []) else some ((V.bool false), [])) := by kernel_rfl
  rw [h, impl_OpOk]
  clear h
  repeat' (first | exact agr_none | refine agr_if ?_ ?_ | refine agr_call fun _ => ?_ | refine agr_let fun _ => ?_ | exact agr_leaf (by kernel_rfl))
def impl_OpOk_s (args : List V) : Option (Bool × (V × List V)) := bif argsOk [(.agg [(.int .i64), (.inl t_byte), (.inl t_byte), (.int .i64)])] args then some ((impl_OpOk (rd args 0)).isSome, impl_OpOk_sh ((impl_OpOk (rd args 0)).getD default)) else none
theorem impl_OpOk_s_ok : ∀ args r, impl_OpOk_s args = some (true, r) → SumOk Try.prog tab 111 args r :=
  Base.sum (cfg := impl_OpOk_c) (F := fun args => impl_OpOk (rd args 0)) (shr := impl_OpOk_sh) base impl_OpOk_c_ok Try.func111 (by kernel_rfl) (GoodAll.ok (l := []) GoodAll.nil rfl) [(.agg [(.int .i64), (.inl t_byte), (.inl t_byte), (.int .i64)])] (by kernel_rfl) [[.dead]] [] (by kernel_rfl) fun args h => by
    have q := impl_OpOk_e (rd args 0)
    rw [show [(n_laws_Op (rd args 0))] = args from h] at q
    exact q
def impl_CmdOk_c : Cfg := ⟨tab, sumsOf [(110, impl_noOp_s), (109, impl_Cmd_same_s), (90, impl_within_s), (111, impl_OpOk_s)], fun _ => false, fun f => (look [(110, []), (109, [none, none]), (90, [none, none, none]), (111, [none])] f).getD [], false⟩
theorem impl_CmdOk_c_ok : SumsOk Try.prog tab impl_CmdOk_c.sums := sums_cons f110_en impl_noOp_s_ok (sums_cons f109_en impl_Cmd_same_s_ok (sums_cons f90_en impl_within_s_ok (sums_cons f111_en impl_OpOk_s_ok (sums_nil))))
def impl_CmdOk_L : Loops := ⟨fun k => (look [] k).getD [], fun k => (look [] k).getD [], fun k => (look [] k).getD [], runL []⟩
def impl_CmdOk_sh (r_ : Bool) : V × List V := ((V.bool r_), [])
theorem impl_CmdOk_e (c : V) : Agr (wkF [[.dead]] []) impl_CmdOk_sh (impl_CmdOk c) (evalFn impl_CmdOk_c impl_CmdOk_L Try.f68 [(n_laws_Cmd c)]) := by
  have h : evalFn impl_CmdOk_c impl_CmdOk_L Try.f68 [(n_laws_Cmd c)] = (bif impl_Cmd_same (n_laws_Cmd c) (n_laws_Cmd impl_noOp) then some ((V.bool true), []) else bif impl_within (gi c 0) 0 3 then bif impl_within (gi c 1) 1 1000000 then rcall (impl_OpOk (V.agg [(V.int .i64 (gi c 2)), (V.inl t_byte (gl c 3)), (V.inl t_byte (gl c 4)), (V.int .i64 (gi c 5))])) fun r44 => some ((V.bool r44), []) else some ((V.bool false), []) else some ((V.bool false), [])) := by kernel_rfl
  rw [h, impl_CmdOk]
  clear h
  repeat' (first | exact agr_none | refine agr_if ?_ ?_ | refine agr_call fun _ => ?_ | refine agr_let fun _ => ?_ | exact agr_leaf (by kernel_rfl))
def impl_CmdOk_s (args : List V) : Option (Bool × (V × List V)) := bif argsOk [(.agg [(.int .i64), (.int .i64), (.int .i64), (.inl t_byte), (.inl t_byte), (.int .i64)])] args then some ((impl_CmdOk (rd args 0)).isSome, impl_CmdOk_sh ((impl_CmdOk (rd args 0)).getD default)) else none
theorem impl_CmdOk_s_ok : ∀ args r, impl_CmdOk_s args = some (true, r) → SumOk Try.prog tab 68 args r :=
  Base.sum (cfg := impl_CmdOk_c) (F := fun args => impl_CmdOk (rd args 0)) (shr := impl_CmdOk_sh) base impl_CmdOk_c_ok Try.func68 (by kernel_rfl) (GoodAll.ok (l := []) GoodAll.nil rfl) [(.agg [(.int .i64), (.int .i64), (.int .i64), (.inl t_byte), (.inl t_byte), (.int .i64)])] (by kernel_rfl) [[.dead]] [] (by kernel_rfl) fun args h => by
    have q := impl_CmdOk_e (rd args 0)
    rw [show [(n_laws_Cmd (rd args 0))] = args from h] at q
    exact q
def impl_ItemOk_c : Cfg := ⟨tab, sumsOf [(94, impl_isTerm_s), (68, impl_CmdOk_s)], fun _ => false, fun f => (look [(94, [none]), (68, [none])] f).getD [], false⟩
theorem impl_ItemOk_c_ok : SumsOk Try.prog tab impl_ItemOk_c.sums := sums_cons f94_en impl_isTerm_s_ok (sums_cons f68_en impl_CmdOk_s_ok (sums_nil))
def impl_ItemOk_L : Loops := ⟨fun k => (look [] k).getD [], fun k => (look [] k).getD [], fun k => (look [] k).getD [], runL []⟩
def impl_ItemOk_sh (r_ : Bool) : V × List V := ((V.bool r_), [])
theorem impl_ItemOk_e (x : V) : Agr (wkF [[.dead]] []) impl_ItemOk_sh (impl_ItemOk x) (evalFn impl_ItemOk_c impl_ItemOk_L Try.f91 [(n_impl_Item x)]) := by
  have h : evalFn impl_ItemOk_c impl_ItemOk_L Try.f91 [(n_impl_Item x)] = (bif impl_isTerm (gi x 0) then rcall (impl_CmdOk (V.agg [(V.int .i64 (gi x 1)), (V.int .i64 (gi x 2)), (V.int .i64 (gi x 3)), (V.inl t_byte (gl x 4)), (V.inl t_byte (gl x 5)), (V.int .i64 (gi x 6))])) fun r45 => some ((V.bool r45), []) else some ((V.bool false), [])) := by kernel_rfl
  rw [h, impl_ItemOk]
  clear h
  repeat' (first | exact agr_none | refine agr_if ?_ ?_ | refine agr_call fun _ => ?_ | refine agr_let fun _ => ?_ | exact agr_leaf (by kernel_rfl))
def impl_ItemOk_s (args : List V) : Option (Bool × (V × List V)) := bif argsOk [(.agg [(.int .i64), (.int .i64), (.int .i64), (.int .i64), (.inl t_byte), (.inl t_byte), (.int .i64)])] args then some ((impl_ItemOk (rd args 0)).isSome, impl_ItemOk_sh ((impl_ItemOk (rd args 0)).getD default)) else none
theorem impl_ItemOk_s_ok : ∀ args r, impl_ItemOk_s args = some (true, r) → SumOk Try.prog tab 91 args r :=
  Base.sum (cfg := impl_ItemOk_c) (F := fun args => impl_ItemOk (rd args 0)) (shr := impl_ItemOk_sh) base impl_ItemOk_c_ok Try.func91 (by kernel_rfl) (GoodAll.ok (l := []) GoodAll.nil rfl) [(.agg [(.int .i64), (.int .i64), (.int .i64), (.int .i64), (.inl t_byte), (.inl t_byte), (.int .i64)])] (by kernel_rfl) [[.dead]] [] (by kernel_rfl) fun args h => by
    have q := impl_ItemOk_e (rd args 0)
    rw [show [(n_impl_Item (rd args 0))] = args from h] at q
    exact q
def slices_Index_bool_c : Cfg := ⟨tab, sumsOf [], fun _ => false, fun f => (look [] f).getD [], false⟩
theorem slices_Index_bool_c_ok : SumsOk Try.prog tab slices_Index_bool_c.sums := sums_nil
def slices_Index_bool_l2_e : LE := ⟨2, ⟨[(0, (.one (.inl t_bool))), (1, (.one .bool)), (7, (.one (.int .i64))), (8, (.one (.int .i64)))], [], 0, []⟩, fun st => Out.tst (slices_Index_bool_l2 ((((sv st 2).I) - ((sv st 3).I)).toNat + 1) ((sv st 0).L) ((sv st 1).B) ((sv st 2).I) ((sv st 3).I)).isSome (brs ((fun r_ => r_.1) ((slices_Index_bool_l2 ((((sv st 2).I) - ((sv st 3).I)).toNat + 1) ((sv st 0).L) ((sv st 1).B) ((sv st 2).I) ((sv st 3).I)).getD default)) 0 ((fun r_ => [(Ex.ret, (⟨[(4, (V.int .i64 r_.2))], [], 0, []⟩ : St)), ((Ex.exit 0), (⟨[(4, V.dead)], [], 0, []⟩ : St))]) ((slices_Index_bool_l2 ((((sv st 2).I) - ((sv st 3).I)).toNat + 1) ((sv st 0).L) ((sv st 1).B) ((sv st 2).I) ((sv st 3).I)).getD default)))⟩
def slices_Index_bool_L : Loops := ⟨fun k => (look [(2, [0, 1, 7, 8])] k).getD [], fun k => (look [] k).getD [], fun k => (look [(2, [4])] k).getD [], runL [slices_Index_bool_l2_e]⟩
theorem slices_Index_bool_l2_ok (k_ : Nat) : ∀ (s0 : List V) (v1 : Bool) (v7 : Int) (v8 : Int), Agr id (fun r_ => pick (r_.1) 0 [(Ex.ret, (⟨[(4, (V.int .i64 r_.2))], [], 0, []⟩ : St)), ((Ex.exit 0), (⟨[(4, V.dead)], [], 0, []⟩ : St))]) (slices_Index_bool_l2 k_ s0 v1 v7 v8) (rounds slices_Index_bool_c slices_Index_bool_L ((loopsIn (bodyOf Try.f130)).getD 0 .skip) k_ (⟨[(0, (V.inl t_bool s0)), (1, (V.bool v1)), (7, (V.int .i64 v7)), (8, (V.int .i64 v8))], [], 0, []⟩ : St)) := by
  induction k_ with
  | zero => intros; exact agr_none
  | succ k_ ih =>
    intro s0 v1 v7 v8
    have h : rounds slices_Index_bool_c slices_Index_bool_L ((loopsIn (bodyOf Try.f130)).getD 0 .skip) (k_ + 1) (⟨[(0, (V.inl t_bool s0)), (1, (V.bool v1)), (7, (V.int .i64 v7)), (8, (V.int .i64 v8))], [], 0, []⟩ : St) = (bif (decide (v8 < v7)) then bif (idxOk v8 s0.length) then bif (v1 == (gb (rd s0 v8.toNat) 0)) then some (Ex.ret, (⟨[(4, (V.int .i64 v8))], [], 0, []⟩ : St)) else rounds slices_Index_bool_c slices_Index_bool_L ((loopsIn (bodyOf Try.f130)).getD 0 .skip) k_ (⟨[(0, (V.inl t_bool s0)), (1, (V.bool v1)), (7, (V.int .i64 v7)), (8, (V.int .i64 (IntKind.i64.wrap (v8 + 1))))], [], 0, []⟩ : St) else none else some ((Ex.exit 0), (⟨[(4, V.dead)], [], 0, []⟩ : St))) := by kernel_rfl
    rw [h, slices_Index_bool_l2]
    clear h
    repeat' (first | exact agr_none | refine agr_if ?_ ?_ | refine agr_call fun _ => ?_ | refine agr_let fun _ => ?_ | exact agr_leaf (by kernel_rfl) | exact ih _ _ _ _)
theorem slices_Index_bool_lo : LoopsOk slices_Index_bool_c slices_Index_bool_L (bodyOf Try.f130) := by
  refine GoodAll.ok (l := [slices_Index_bool_l2_e]) ?_ rfl
  refine GoodAll.cons 0 (by kernel_rfl) ?_ ?_
  · exact good_of (key := 2) (ss := ⟨[(0, (.one (.inl t_bool))), (1, (.one .bool)), (7, (.one (.int .i64))), (8, (.one (.int .i64)))], [], 0, []⟩) (F := fun st => slices_Index_bool_l2 ((((sv st 2).I) - ((sv st 3).I)).toNat + 1) ((sv st 0).L) ((sv st 1).B) ((sv st 2).I) ((sv st 3).I)) (ix := fun r_ => r_.1) (ps := fun r_ => [(Ex.ret, (⟨[(4, (V.int .i64 r_.2))], [], 0, []⟩ : St)), ((Ex.exit 0), (⟨[(4, V.dead)], [], 0, []⟩ : St))]) (fun st => (((sv st 2).I) - ((sv st 3).I)).toNat + 1) fun st h => by
      have q := slices_Index_bool_l2_ok ((((sv st 2).I) - ((sv st 3).I)).toNat + 1) ((sv st 0).L) ((sv st 1).B) ((sv st 2).I) ((sv st 3).I)
      rw [show (⟨[(0, (V.inl t_bool ((sv st 0).L))), (1, (V.bool ((sv st 1).B))), (7, (V.int .i64 ((sv st 2).I))), (8, (V.int .i64 ((sv st 3).I)))], [], 0, []⟩ : St) = st from h] at q
      exact q
  exact GoodAll.nil
def slices_Index_bool_sh (r_ : Int) : V × List V := ((V.int .i64 r_), [])
theorem slices_Index_bool_e (s : List V) (v : Bool) : Agr (wkF [[.dead]] []) slices_Index_bool_sh (slices_Index_bool s v) (evalFn slices_Index_bool_c slices_Index_bool_L Try.f130 [(V.inl t_bool s), (V.bool v)]) := by
  have h : evalFn slices_Index_bool_c slices_Index_bool_L Try.f130 [(V.inl t_bool s), (V.bool v)] = (rcall (slices_Index_bool_l2 ((((s.length : Nat) : Int) - 0).toNat + 1) s v ((s.length : Nat) : Int) 0) fun r48 => bif (Nat.beq r48.1 0) then some ((V.int .i64 r48.2), []) else some ((V.int .i64 (-1)), [])) := by kernel_rfl
  rw [h, slices_Index_bool]
  clear h
  repeat' (first | exact agr_none | refine agr_if ?_ ?_ | refine agr_call fun _ => ?_ | refine agr_let fun _ => ?_ | exact agr_leaf (by kernel_rfl))
def slices_Index_bool_s (args : List V) : Option (Bool × (V × List V)) := bif argsOk [(.one (.inl t_bool)), (.one .bool)] args then some ((slices_Index_bool ((rd args 0).L) ((rd args 1).B)).isSome, slices_Index_bool_sh ((slices_Index_bool ((rd args 0).L) ((rd args 1).B)).getD default)) else none
theorem slices_Index_bool_s_ok : ∀ args r, slices_Index_bool_s args = some (true, r) → SumOk Try.prog tab 130 args r :=
  Base.sum (cfg := slices_Index_bool_c) (F := fun args => slices_Index_bool ((rd args 0).L) ((rd args 1).B)) (shr := slices_Index_bool_sh) base slices_Index_bool_c_ok Try.func130 (by kernel_rfl) slices_Index_bool_lo [(.one (.inl t_bool)), (.one .bool)] (by kernel_rfl) [[.dead]] [] (by kernel_rfl) fun args h => by
    have q := slices_Index_bool_e ((rd args 0).L) ((rd args 1).B)
    rw [show [(V.inl t_bool ((rd args 0).L)), (V.bool ((rd args 1).B))] = args from h] at q
    exact q
def slices_Contains_bool_c : Cfg := ⟨tab, sumsOf [(130, slices_Index_bool_s)], fun _ => false, fun f => (look [(130, [some t_bool, none])] f).getD [], false⟩
theorem slices_Contains_bool_c_ok : SumsOk Try.prog tab slices_Contains_bool_c.sums := sums_cons f130_en slices_Index_bool_s_ok (sums_nil)
def slices_Contains_bool_L : Loops := ⟨fun k => (look [] k).getD [], fun k => (look [] k).getD [], fun k => (look [] k).getD [], runL []⟩
def slices_Contains_bool_sh (r_ : Bool) : V × List V := ((V.bool r_), [])
theorem slices_Contains_bool_e (s : List V) (v : Bool) : Agr (wkF [[.dead]] []) slices_Contains_bool_sh (slices_Contains_bool s v) (evalFn slices_Contains_bool_c slices_Contains_bool_L Try.f92 [(V.inl t_bool s), (V.bool v)]) := by
  have h : evalFn slices_Contains_bool_c slices_Contains_bool_L Try.f92 [(V.inl t_bool s), (V.bool v)] = (rcall (slices_Index_bool s v) fun r49 => some ((V.bool (decide ((0 : Int) ≤ r49))), [])) := by kernel_rfl
  rw [h, slices_Contains_bool]
  clear h
  repeat' (first | exact agr_none | refine agr_if ?_ ?_ | refine agr_call fun _ => ?_ | refine agr_let fun _ => ?_ | exact agr_leaf (by kernel_rfl))
def slices_Contains_bool_s (args : List V) : Option (Bool × (V × List V)) := bif argsOk [(.one (.inl t_bool)), (.one .bool)] args then some ((slices_Contains_bool ((rd args 0).L) ((rd args 1).B)).isSome, slices_Contains_bool_sh ((slices_Contains_bool ((rd args 0).L) ((rd args 1).B)).getD default)) else none
theorem slices_Contains_bool_s_ok : ∀ args r, slices_Contains_bool_s args = some (true, r) → SumOk Try.prog tab 92 args r :=
  Base.sum (cfg := slices_Contains_bool_c) (F := fun args => slices_Contains_bool ((rd args 0).L) ((rd args 1).B)) (shr := slices_Contains_bool_sh) base slices_Contains_bool_c_ok Try.func92 (by kernel_rfl) (GoodAll.ok (l := []) GoodAll.nil rfl) [(.one (.inl t_bool)), (.one .bool)] (by kernel_rfl) [[.dead]] [] (by kernel_rfl) fun args h => by
    have q := slices_Contains_bool_e ((rd args 0).L) ((rd args 1).B)
    rw [show [(V.inl t_bool ((rd args 0).L)), (V.bool ((rd args 1).B))] = args from h] at q
    exact q
def impl_NodeOk_c : Cfg := ⟨tab, sumsOf [(89, impl_isServer_s), (90, impl_within_s), (91, impl_ItemOk_s), (92, slices_Contains_bool_s)], fun _ => false, fun f => (look [(89, [none, none]), (90, [none, none, none]), (91, [none]), (92, [some t_bool, none])] f).getD [], false⟩
theorem impl_NodeOk_c_ok : SumsOk Try.prog tab impl_NodeOk_c.sums := sums_cons f89_en impl_isServer_s_ok (sums_cons f90_en impl_within_s_ok (sums_cons f91_en impl_ItemOk_s_ok (sums_cons f92_en slices_Contains_bool_s_ok (sums_nil))))
def impl_NodeOk_l5_e : LE := ⟨5, ⟨[(1, (.one (.int .i64))), (2, (.one (.bp 0 0))), (5, (.one (.int .i64))), (43, (.one (.inl t_impl_Item))), (44, (.one (.int .i64))), (45, (.one (.int .i64)))], [(.box t_impl_Node [(.int .i64), (.int .i64), (.int .i64), (.inl t_impl_Item), (.int .i64), (.int .i64), (.int .i64), (.int .i64), (.inl t_bool), (.inl t_int'), (.inl t_int')])], 1, []⟩, fun st => Out.tst (impl_NodeOk_l5 ((((sv st 4).I) - ((sv st 5).I)).toNat + 1) ((sv st 0).I) ((sv st 2).I) ((sv st 3).L) ((sv st 4).I) ((sv st 5).I) (bc st 0)).isSome (brs ((fun r_ => r_.1) ((impl_NodeOk_l5 ((((sv st 4).I) - ((sv st 5).I)).toNat + 1) ((sv st 0).I) ((sv st 2).I) ((sv st 3).L) ((sv st 4).I) ((sv st 5).I) (bc st 0)).getD default)) 0 ((fun r_ => [(Ex.ret, (⟨[(1, (V.int .i64 r_.2.1)), (2, (V.bp 0 0)), (4, (V.bool r_.2.2.1))], [(0, some (Blk.box t_impl_Node [(V.int .i64 (gi r_.2.2.2 0)), (V.int .i64 (gi r_.2.2.2 1)), (V.int .i64 (gi r_.2.2.2 2)), (V.inl t_impl_Item (gl r_.2.2.2 3)), (V.int .i64 (gi r_.2.2.2 4)), (V.int .i64 (gi r_.2.2.2 5)), (V.int .i64 (gi r_.2.2.2 6)), (V.int .i64 (gi r_.2.2.2 7)), (V.inl t_bool (gl r_.2.2.2 8)), (V.inl t_int' (gl r_.2.2.2 9)), (V.inl t_int' (gl r_.2.2.2 10))]))], 1, []⟩ : St)), ((Ex.exit 0), (⟨[(1, (V.int .i64 r_.2.1)), (2, (V.bp 0 0)), (4, V.dead)], [(0, some (Blk.box t_impl_Node [(V.int .i64 (gi r_.2.2.2 0)), (V.int .i64 (gi r_.2.2.2 1)), (V.int .i64 (gi r_.2.2.2 2)), (V.inl t_impl_Item (gl r_.2.2.2 3)), (V.int .i64 (gi r_.2.2.2 4)), (V.int .i64 (gi r_.2.2.2 5)), (V.int .i64 (gi r_.2.2.2 6)), (V.int .i64 (gi r_.2.2.2 7)), (V.inl t_bool (gl r_.2.2.2 8)), (V.inl t_int' (gl r_.2.2.2 9)), (V.inl t_int' (gl r_.2.2.2 10))]))], 1, []⟩ : St))]) ((impl_NodeOk_l5 ((((sv st 4).I) - ((sv st 5).I)).toNat + 1) ((sv st 0).I) ((sv st 2).I) ((sv st 3).L) ((sv st 4).I) ((sv st 5).I) (bc st 0)).getD default)))⟩
def impl_NodeOk_l16_e : LE := ⟨16, ⟨[(2, (.one (.bp 0 0))), (141, (.one (.int .i64))), (142, (.one (.int .i64)))], [(.box t_impl_Node [(.int .i64), (.int .i64), (.int .i64), (.inl t_impl_Item), (.int .i64), (.int .i64), (.int .i64), (.int .i64), (.inl t_bool), (.inl t_int'), (.inl t_int')])], 1, []⟩, fun st => Out.tst (impl_NodeOk_l16 ((((sv st 1).I) - ((sv st 2).I)).toNat + 1) ((sv st 1).I) ((sv st 2).I) (bc st 0)).isSome (brs ((fun r_ => r_.1) ((impl_NodeOk_l16 ((((sv st 1).I) - ((sv st 2).I)).toNat + 1) ((sv st 1).I) ((sv st 2).I) (bc st 0)).getD default)) 0 ((fun r_ => [(Ex.ret, (⟨[(4, (V.bool r_.2))], [], 0, []⟩ : St)), ((Ex.exit 2), (⟨[(4, V.dead)], [], 0, []⟩ : St))]) ((impl_NodeOk_l16 ((((sv st 1).I) - ((sv st 2).I)).toNat + 1) ((sv st 1).I) ((sv st 2).I) (bc st 0)).getD default)))⟩
def impl_NodeOk_L : Loops := ⟨fun k => (look [(5, [1, 2, 5, 43, 44, 45]), (16, [2, 141, 142])] k).getD [], fun k => (look [] k).getD [], fun k => (look [(5, [1, 2, 4]), (16, [4])] k).getD [], runL [impl_NodeOk_l5_e, impl_NodeOk_l16_e]⟩
theorem impl_NodeOk_l5_ok (k_ : Nat) : ∀ (servers1 : Int) (term5 : Int) (v43 : List V) (v44 : Int) (v45 : Int) (b0 : V), Agr id (fun r_ => pick (r_.1) 0 [(Ex.ret, (⟨[(1, (V.int .i64 r_.2.1)), (2, (V.bp 0 0)), (4, (V.bool r_.2.2.1))], [(0, some (Blk.box t_impl_Node [(V.int .i64 (gi r_.2.2.2 0)), (V.int .i64 (gi r_.2.2.2 1)), (V.int .i64 (gi r_.2.2.2 2)), (V.inl t_impl_Item (gl r_.2.2.2 3)), (V.int .i64 (gi r_.2.2.2 4)), (V.int .i64 (gi r_.2.2.2 5)), (V.int .i64 (gi r_.2.2.2 6)), (V.int .i64 (gi r_.2.2.2 7)), (V.inl t_bool (gl r_.2.2.2 8)), (V.inl t_int' (gl r_.2.2.2 9)), (V.inl t_int' (gl r_.2.2.2 10))]))], 1, []⟩ : St)), ((Ex.exit 0), (⟨[(1, (V.int .i64 r_.2.1)), (2, (V.bp 0 0)), (4, V.dead)], [(0, some (Blk.box t_impl_Node [(V.int .i64 (gi r_.2.2.2 0)), (V.int .i64 (gi r_.2.2.2 1)), (V.int .i64 (gi r_.2.2.2 2)), (V.inl t_impl_Item (gl r_.2.2.2 3)), (V.int .i64 (gi r_.2.2.2 4)), (V.int .i64 (gi r_.2.2.2 5)), (V.int .i64 (gi r_.2.2.2 6)), (V.int .i64 (gi r_.2.2.2 7)), (V.inl t_bool (gl r_.2.2.2 8)), (V.inl t_int' (gl r_.2.2.2 9)), (V.inl t_int' (gl r_.2.2.2 10))]))], 1, []⟩ : St))]) (impl_NodeOk_l5 k_ servers1 term5 v43 v44 v45 b0) (rounds impl_NodeOk_c impl_NodeOk_L ((loopsIn (bodyOf Try.f35)).getD 0 .skip) k_ (⟨[(1, (V.int .i64 servers1)), (2, (V.bp 0 0)), (5, (V.int .i64 term5)), (43, (V.inl t_impl_Item v43)), (44, (V.int .i64 v44)), (45, (V.int .i64 v45))], [(0, some (Blk.box t_impl_Node [(V.int .i64 (gi b0 0)), (V.int .i64 (gi b0 1)), (V.int .i64 (gi b0 2)), (V.inl t_impl_Item (gl b0 3)), (V.int .i64 (gi b0 4)), (V.int .i64 (gi b0 5)), (V.int .i64 (gi b0 6)), (V.int .i64 (gi b0 7)), (V.inl t_bool (gl b0 8)), (V.inl t_int' (gl b0 9)), (V.inl t_int' (gl b0 10))]))], 1, []⟩ : St)) := by
  induction k_ with
  | zero => intros; exact agr_none
  | succ k_ ih =>
    intro servers1 term5 v43 v44 v45 b0
    have h : rounds impl_NodeOk_c impl_NodeOk_L ((loopsIn (bodyOf Try.f35)).getD 0 .skip) (k_ + 1) (⟨[(1, (V.int .i64 servers1)), (2, (V.bp 0 0)), (5, (V.int .i64 term5)), (43, (V.inl t_impl_Item v43)), (44, (V.int .i64 v44)), (45, (V.int .i64 v45))], [(0, some (Blk.box t_impl_Node [(V.int .i64 (gi b0 0)), (V.int .i64 (gi b0 1)), (V.int .i64 (gi b0 2)), (V.inl t_impl_Item (gl b0 3)), (V.int .i64 (gi b0 4)), (V.int .i64 (gi b0 5)), (V.int .i64 (gi b0 6)), (V.int .i64 (gi b0 7)), (V.inl t_bool (gl b0 8)), (V.inl t_int' (gl b0 9)), (V.inl t_int' (gl b0 10))]))], 1, []⟩ : St) = (bif (decide (v45 < v44)) then bif (idxOk v45 v43.length) then rcall (impl_ItemOk (n_impl_Item (rd v43 v45.toNat))) fun r46 => bif (!r46) then some (Ex.ret, (⟨[(1, (V.int .i64 servers1)), (2, (V.bp 0 0)), (4, (V.bool false))], [(0, some (Blk.box t_impl_Node [(V.int .i64 (gi b0 0)), (V.int .i64 (gi b0 1)), (V.int .i64 (gi b0 2)), (V.inl t_impl_Item (gl b0 3)), (V.int .i64 (gi b0 4)), (V.int .i64 (gi b0 5)), (V.int .i64 (gi b0 6)), (V.int .i64 (gi b0 7)), (V.inl t_bool (gl b0 8)), (V.inl t_int' (gl b0 9)), (V.inl t_int' (gl b0 10))]))], 1, []⟩ : St)) else bif (!(impl_within (gi (rd v43 v45.toNat) 0) term5 (gi b0 1))) then some (Ex.ret, (⟨[(1, (V.int .i64 servers1)), (2, (V.bp 0 0)), (4, (V.bool false))], [(0, some (Blk.box t_impl_Node [(V.int .i64 (gi b0 0)), (V.int .i64 (gi b0 1)), (V.int .i64 (gi b0 2)), (V.inl t_impl_Item (gl b0 3)), (V.int .i64 (gi b0 4)), (V.int .i64 (gi b0 5)), (V.int .i64 (gi b0 6)), (V.int .i64 (gi b0 7)), (V.inl t_bool (gl b0 8)), (V.inl t_int' (gl b0 9)), (V.inl t_int' (gl b0 10))]))], 1, []⟩ : St)) else rounds impl_NodeOk_c impl_NodeOk_L ((loopsIn (bodyOf Try.f35)).getD 0 .skip) k_ (⟨[(1, (V.int .i64 servers1)), (2, (V.bp 0 0)), (5, (V.int .i64 (gi (rd v43 v45.toNat) 0))), (43, (V.inl t_impl_Item v43)), (44, (V.int .i64 v44)), (45, (V.int .i64 (IntKind.i64.wrap (v45 + 1))))], [(0, some (Blk.box t_impl_Node [(V.int .i64 (gi b0 0)), (V.int .i64 (gi b0 1)), (V.int .i64 (gi b0 2)), (V.inl t_impl_Item (gl b0 3)), (V.int .i64 (gi b0 4)), (V.int .i64 (gi b0 5)), (V.int .i64 (gi b0 6)), (V.int .i64 (gi b0 7)), (V.inl t_bool (gl b0 8)), (V.inl t_int' (gl b0 9)), (V.inl t_int' (gl b0 10))]))], 1, []⟩ : St) else none else some ((Ex.exit 0), (⟨[(1, (V.int .i64 servers1)), (2, (V.bp 0 0)), (4, V.dead)], [(0, some (Blk.box t_impl_Node [(V.int .i64 (gi b0 0)), (V.int .i64 (gi b0 1)), (V.int .i64 (gi b0 2)), (V.inl t_impl_Item (gl b0 3)), (V.int .i64 (gi b0 4)), (V.int .i64 (gi b0 5)), (V.int .i64 (gi b0 6)), (V.int .i64 (gi b0 7)), (V.inl t_bool (gl b0 8)), (V.inl t_int' (gl b0 9)), (V.inl t_int' (gl b0 10))]))], 1, []⟩ : St))) := by kernel_rfl
    rw [h, impl_NodeOk_l5]
    clear h
    repeat' (first | exact agr_none | refine agr_if ?_ ?_ | refine agr_call fun _ => ?_ | refine agr_let fun _ => ?_ | exact agr_leaf (by kernel_rfl) | exact ih _ _ _ _ _ _)
set_option maxRecDepth 100000 in
theorem impl_NodeOk_l16_ok (k_ : Nat) : ∀ (v141 : Int) (v142 : Int) (b0 : V), Agr id (fun r_ => pick (r_.1) 0 [(Ex.ret, (⟨[(4, (V.bool r_.2))], [], 0, []⟩ : St)), ((Ex.exit 2), (⟨[(4, V.dead)], [], 0, []⟩ : St))]) (impl_NodeOk_l16 k_ v141 v142 b0) (rounds impl_NodeOk_c impl_NodeOk_L ((loopsIn (bodyOf Try.f35)).getD 1 .skip) k_ (⟨[(2, (V.bp 0 0)), (141, (V.int .i64 v141)), (142, (V.int .i64 v142))], [(0, some (Blk.box t_impl_Node [(V.int .i64 (gi b0 0)), (V.int .i64 (gi b0 1)), (V.int .i64 (gi b0 2)), (V.inl t_impl_Item (gl b0 3)), (V.int .i64 (gi b0 4)), (V.int .i64 (gi b0 5)), (V.int .i64 (gi b0 6)), (V.int .i64 (gi b0 7)), (V.inl t_bool (gl b0 8)), (V.inl t_int' (gl b0 9)), (V.inl t_int' (gl b0 10))]))], 1, []⟩ : St)) := by
  induction k_ with
  | zero => intros; exact agr_none
  | succ k_ ih =>
    intro v141 v142 b0
    have h : rounds impl_NodeOk_c impl_NodeOk_L ((loopsIn (bodyOf Try.f35)).getD 1 .skip) (k_ + 1) (⟨[(2, (V.bp 0 0)), (141, (V.int .i64 v141)), (142, (V.int .i64 v142))], [(0, some (Blk.box t_impl_Node [(V.int .i64 (gi b0 0)), (V.int .i64 (gi b0 1)), (V.int .i64 (gi b0 2)), (V.inl t_impl_Item (gl b0 3)), (V.int .i64 (gi b0 4)), (V.int .i64 (gi b0 5)), (V.int .i64 (gi b0 6)), (V.int .i64 (gi b0 7)), (V.inl t_bool (gl b0 8)), (V.inl t_int' (gl b0 9)), (V.inl t_int' (gl b0 10))]))], 1, []⟩ : St) = (bif (decide (v142 < v141)) then bif (decide ((gi b0 5) = 2)) then bif (idxOk v142 ((gl b0 9).length)) then bif (!(impl_within (gi (rd (gl b0 9) v142.toNat) 0) 1 (IntKind.i64.wrap ((((gl b0 3).length : Nat) : Int) + 1)))) then some (Ex.ret, (⟨[(4, (V.bool false))], [], 0, []⟩ : St)) else bif (idxOk v142 ((gl b0 10).length)) then bif (!(impl_within (gi (rd (gl b0 10) v142.toNat) 0) 0 (((gl b0 3).length : Nat) : Int))) then some (Ex.ret, (⟨[(4, (V.bool false))], [], 0, []⟩ : St)) else bif (!(decide ((gi b0 5) = 2))) then bif (idxOk v142 ((gl b0 9).length)) then bif (!(decide ((gi (rd (gl b0 9) v142.toNat) 0) = 0))) then some (Ex.ret, (⟨[(4, (V.bool false))], [], 0, []⟩ : St)) else bif (idxOk v142 ((gl b0 10).length)) then bif (!(decide ((gi (rd (gl b0 10) v142.toNat) 0) = 0))) then some (Ex.ret, (⟨[(4, (V.bool false))], [], 0, []⟩ : St)) else rounds impl_NodeOk_c impl_NodeOk_L ((loopsIn (bodyOf Try.f35)).getD 1 .skip) k_ (⟨[(2, (V.bp 0 0)), (141, (V.int .i64 v141)), (142, (V.int .i64 (IntKind.i64.wrap (v142 + 1))))], [(0, some (Blk.box t_impl_Node [(V.int .i64 (gi b0 0)), (V.int .i64 (gi b0 1)), (V.int .i64 (gi b0 2)), (V.inl t_impl_Item (gl b0 3)), (V.int .i64 (gi b0 4)), (V.int .i64 (gi b0 5)), (V.int .i64 (gi b0 6)), (V.int .i64 (gi b0 7)), (V.inl t_bool (gl b0 8)), (V.inl t_int' (gl b0 9)), (V.inl t_int' (gl b0 10))]))], 1, []⟩ : St) else none else none else rounds impl_NodeOk_c impl_NodeOk_L ((loopsIn (bodyOf Try.f35)).getD 1 .skip) k_ (⟨[(2, (V.bp 0 0)), (141, (V.int .i64 v141)), (142, (V.int .i64 (IntKind.i64.wrap (v142 + 1))))], [(0, some (Blk.box t_impl_Node [(V.int .i64 (gi b0 0)), (V.int .i64 (gi b0 1)), (V.int .i64 (gi b0 2)), (V.inl t_impl_Item (gl b0 3)), (V.int .i64 (gi b0 4)), (V.int .i64 (gi b0 5)), (V.int .i64 (gi b0 6)), (V.int .i64 (gi b0 7)), (V.inl t_bool (gl b0 8)), (V.inl t_int' (gl b0 9)), (V.inl t_int' (gl b0 10))]))], 1, []⟩ : St) else none else none else bif (!(decide ((gi b0 5) = 2))) then bif (idxOk v142 ((gl b0 9).length)) then bif (!(decide ((gi (rd (gl b0 9) v142.toNat) 0) = 0))) then some (Ex.ret, (⟨[(4, (V.bool false))], [], 0, []⟩ : St)) else bif (idxOk v142 ((gl b0 10).length)) then bif (!(decide ((gi (rd (gl b0 10) v142.toNat) 0) = 0))) then some (Ex.ret, (⟨[(4, (V.bool false))], [], 0, []⟩ : St)) else rounds impl_NodeOk_c impl_NodeOk_L ((loopsIn (bodyOf Try.f35)).getD 1 .skip) k_ (⟨[(2, (V.bp 0 0)), (141, (V.int .i64 v141)), (142, (V.int .i64 (IntKind.i64.wrap (v142 + 1))))], [(0, some (Blk.box t_impl_Node [(V.int .i64 (gi b0 0)), (V.int .i64 (gi b0 1)), (V.int .i64 (gi b0 2)), (V.inl t_impl_Item (gl b0 3)), (V.int .i64 (gi b0 4)), (V.int .i64 (gi b0 5)), (V.int .i64 (gi b0 6)), (V.int .i64 (gi b0 7)), (V.inl t_bool (gl b0 8)), (V.inl t_int' (gl b0 9)), (V.inl t_int' (gl b0 10))]))], 1, []⟩ : St) else none else none else rounds impl_NodeOk_c impl_NodeOk_L ((loopsIn (bodyOf Try.f35)).getD 1 .skip) k_ (⟨[(2, (V.bp 0 0)), (141, (V.int .i64 v141)), (142, (V.int .i64 (IntKind.i64.wrap (v142 + 1))))], [(0, some (Blk.box t_impl_Node [(V.int .i64 (gi b0 0)), (V.int .i64 (gi b0 1)), (V.int .i64 (gi b0 2)), (V.inl t_impl_Item (gl b0 3)), (V.int .i64 (gi b0 4)), (V.int .i64 (gi b0 5)), (V.int .i64 (gi b0 6)), (V.int .i64 (gi b0 7)), (V.inl t_bool (gl b0 8)), (V.inl t_int' (gl b0 9)), (V.inl t_int' (gl b0 10))]))], 1, []⟩ : St) else some ((Ex.exit 2), (⟨[(4, V.dead)], [], 0, []⟩ : St))) := by kernel_rfl
    rw [h, impl_NodeOk_l16]
    clear h
    repeat' (first | exact agr_none | refine agr_if ?_ ?_ | refine agr_call fun _ => ?_ | refine agr_let fun _ => ?_ | exact agr_leaf (by kernel_rfl) | exact ih _ _ _)
theorem impl_NodeOk_lo : LoopsOk impl_NodeOk_c impl_NodeOk_L (bodyOf Try.f35) := by
  refine GoodAll.ok (l := [impl_NodeOk_l5_e, impl_NodeOk_l16_e]) ?_ rfl
  refine GoodAll.cons 0 (by kernel_rfl) ?_ ?_
  · exact good_of (key := 5) (ss := ⟨[(1, (.one (.int .i64))), (2, (.one (.bp 0 0))), (5, (.one (.int .i64))), (43, (.one (.inl t_impl_Item))), (44, (.one (.int .i64))), (45, (.one (.int .i64)))], [(.box t_impl_Node [(.int .i64), (.int .i64), (.int .i64), (.inl t_impl_Item), (.int .i64), (.int .i64), (.int .i64), (.int .i64), (.inl t_bool), (.inl t_int'), (.inl t_int')])], 1, []⟩) (F := fun st => impl_NodeOk_l5 ((((sv st 4).I) - ((sv st 5).I)).toNat + 1) ((sv st 0).I) ((sv st 2).I) ((sv st 3).L) ((sv st 4).I) ((sv st 5).I) (bc st 0)) (ix := fun r_ => r_.1) (ps := fun r_ => [(Ex.ret, (⟨[(1, (V.int .i64 r_.2.1)), (2, (V.bp 0 0)), (4, (V.bool r_.2.2.1))], [(0, some (Blk.box t_impl_Node [(V.int .i64 (gi r_.2.2.2 0)), (V.int .i64 (gi r_.2.2.2 1)), (V.int .i64 (gi r_.2.2.2 2)), (V.inl t_impl_Item (gl r_.2.2.2 3)), (V.int .i64 (gi r_.2.2.2 4)), (V.int .i64 (gi r_.2.2.2 5)), (V.int .i64 (gi r_.2.2.2 6)), (V.int .i64 (gi r_.2.2.2 7)), (V.inl t_bool (gl r_.2.2.2 8)), (V.inl t_int' (gl r_.2.2.2 9)), (V.inl t_int' (gl r_.2.2.2 10))]))], 1, []⟩ : St)), ((Ex.exit 0), (⟨[(1, (V.int .i64 r_.2.1)), (2, (V.bp 0 0)), (4, V.dead)], [(0, some (Blk.box t_impl_Node [(V.int .i64 (gi r_.2.2.2 0)), (V.int .i64 (gi r_.2.2.2 1)), (V.int .i64 (gi r_.2.2.2 2)), (V.inl t_impl_Item (gl r_.2.2.2 3)), (V.int .i64 (gi r_.2.2.2 4)), (V.int .i64 (gi r_.2.2.2 5)), (V.int .i64 (gi r_.2.2.2 6)), (V.int .i64 (gi r_.2.2.2 7)), (V.inl t_bool (gl r_.2.2.2 8)), (V.inl t_int' (gl r_.2.2.2 9)), (V.inl t_int' (gl r_.2.2.2 10))]))], 1, []⟩ : St))]) (fun st => (((sv st 4).I) - ((sv st 5).I)).toNat + 1) fun st h => by
      have q := impl_NodeOk_l5_ok ((((sv st 4).I) - ((sv st 5).I)).toNat + 1) ((sv st 0).I) ((sv st 2).I) ((sv st 3).L) ((sv st 4).I) ((sv st 5).I) (bc st 0)
      rw [show (⟨[(1, (V.int .i64 ((sv st 0).I))), (2, (V.bp 0 0)), (5, (V.int .i64 ((sv st 2).I))), (43, (V.inl t_impl_Item ((sv st 3).L))), (44, (V.int .i64 ((sv st 4).I))), (45, (V.int .i64 ((sv st 5).I)))], [(0, some (Blk.box t_impl_Node [(V.int .i64 (gi (bc st 0) 0)), (V.int .i64 (gi (bc st 0) 1)), (V.int .i64 (gi (bc st 0) 2)), (V.inl t_impl_Item (gl (bc st 0) 3)), (V.int .i64 (gi (bc st 0) 4)), (V.int .i64 (gi (bc st 0) 5)), (V.int .i64 (gi (bc st 0) 6)), (V.int .i64 (gi (bc st 0) 7)), (V.inl t_bool (gl (bc st 0) 8)), (V.inl t_int' (gl (bc st 0) 9)), (V.inl t_int' (gl (bc st 0) 10))]))], 1, []⟩ : St) = st from h] at q
      exact q
  refine GoodAll.cons 1 (by kernel_rfl) ?_ ?_
  · exact good_of (key := 16) (ss := ⟨[(2, (.one (.bp 0 0))), (141, (.one (.int .i64))), (142, (.one (.int .i64)))], [(.box t_impl_Node [(.int .i64), (.int .i64), (.int .i64), (.inl t_impl_Item), (.int .i64), (.int .i64), (.int .i64), (.int .i64), (.inl t_bool), (.inl t_int'), (.inl t_int')])], 1, []⟩) (F := fun st => impl_NodeOk_l16 ((((sv st 1).I) - ((sv st 2).I)).toNat + 1) ((sv st 1).I) ((sv st 2).I) (bc st 0)) (ix := fun r_ => r_.1) (ps := fun r_ => [(Ex.ret, (⟨[(4, (V.bool r_.2))], [], 0, []⟩ : St)), ((Ex.exit 2), (⟨[(4, V.dead)], [], 0, []⟩ : St))]) (fun st => (((sv st 1).I) - ((sv st 2).I)).toNat + 1) fun st h => by
      have q := impl_NodeOk_l16_ok ((((sv st 1).I) - ((sv st 2).I)).toNat + 1) ((sv st 1).I) ((sv st 2).I) (bc st 0)
      rw [show (⟨[(2, (V.bp 0 0)), (141, (V.int .i64 ((sv st 1).I))), (142, (V.int .i64 ((sv st 2).I)))], [(0, some (Blk.box t_impl_Node [(V.int .i64 (gi (bc st 0) 0)), (V.int .i64 (gi (bc st 0) 1)), (V.int .i64 (gi (bc st 0) 2)), (V.inl t_impl_Item (gl (bc st 0) 3)), (V.int .i64 (gi (bc st 0) 4)), (V.int .i64 (gi (bc st 0) 5)), (V.int .i64 (gi (bc st 0) 6)), (V.int .i64 (gi (bc st 0) 7)), (V.inl t_bool (gl (bc st 0) 8)), (V.inl t_int' (gl (bc st 0) 9)), (V.inl t_int' (gl (bc st 0) 10))]))], 1, []⟩ : St) = st from h] at q
      exact q
  exact GoodAll.nil
def impl_NodeOk_sh (r_ : Bool) : V × List V := ((V.bool r_), [])
set_option maxRecDepth 100000 in
theorem impl_NodeOk_e (n : V) (servers : Int) : Agr (wkF [[.dead]] []) impl_NodeOk_sh (impl_NodeOk n servers) (evalFn impl_NodeOk_c impl_NodeOk_L Try.f35 [(n_impl_Node n), (V.int .i64 servers)]) := by
  have h : evalFn impl_NodeOk_c impl_NodeOk_L Try.f35 [(n_impl_Node n), (V.int .i64 servers)] = (bif (!(impl_isServer (gi n 0) servers)) then some ((V.bool false), []) else bif (!(impl_within (gi n 1) 0 100000)) then some ((V.bool false), []) else bif (!(impl_within (gi n 2) (-1) (IntKind.i64.wrap (servers - 1)))) then some ((V.bool false), []) else bif (!(impl_within (gi n 6) (-1) (IntKind.i64.wrap (servers - 1)))) then some ((V.bool false), []) else bif (decide ((400 : Int) < (((gl n 3).length : Nat) : Int))) then some ((V.bool false), []) else rcall (impl_NodeOk_l5 (((((gl n 3).length : Nat) : Int) - 0).toNat + 1) servers 1 (gl n 3) (((gl n 3).length : Nat) : Int) 0 (n_impl_Node n)) fun r47 => bif (Nat.beq r47.1 0) then some ((V.bool r47.2.2.1), []) else bif (!(impl_within (gi r47.2.2.2 4) 0 (((gl r47.2.2.2 3).length : Nat) : Int))) then some ((V.bool false), []) else bif (!(impl_within (gi r47.2.2.2 5) 0 2)) then some ((V.bool false), []) else bif (!(impl_within (gi r47.2.2.2 7) 0 20)) then some ((V.bool false), []) else bif (!(decide ((((gl r47.2.2.2 8).length : Nat) : Int) = r47.2.1))) then some ((V.bool false), []) else bif (!(decide ((((gl r47.2.2.2 9).length : Nat) : Int) = r47.2.1))) then some ((V.bool false), []) else bif (!(decide ((((gl r47.2.2.2 10).length : Nat) : Int) = r47.2.1))) then some ((V.bool false), []) else bif (decide ((gi r47.2.2.2 5) = 0)) then rcall (slices_Contains_bool (gl r47.2.2.2 8) true) fun r50 => bif r50 then some ((V.bool false), []) else bif (!(decide ((gi r47.2.2.2 5) = 0))) then bif (decide ((gi r47.2.2.2 1) < 1)) then some ((V.bool false), []) else bif (!(decide ((gi r47.2.2.2 2) = (gi r47.2.2.2 0)))) then some ((V.bool false), []) else bif (decide ((gi r47.2.2.2 5) = 2)) then bif (!(decide ((gi r47.2.2.2 6) = (gi r47.2.2.2 0)))) then some ((V.bool false), []) else rcall (impl_NodeOk_l16 ((r47.2.1 - 0).toNat + 1) r47.2.1 0 (n_impl_Node r47.2.2.2)) fun r51 => bif (Nat.beq r51.1 0) then some ((V.bool r51.2), []) else some ((V.bool true), []) else rcall (impl_NodeOk_l16 ((r47.2.1 - 0).toNat + 1) r47.2.1 0 (n_impl_Node r47.2.2.2)) fun r52 => bif (Nat.beq r52.1 0) then some ((V.bool r52.2), []) else some ((V.bool true), []) else bif (decide ((gi r47.2.2.2 5) = 2)) then bif (!(decide ((gi r47.2.2.2 6) = (gi r47.2.2.2 0)))) then some ((V.bool false), []) else rcall (impl_NodeOk_l16 ((r47.2.1 - 0).toNat + 1) r47.2.1 0 (n_impl_Node r47.2.2.2)) fun r53 => bif (Nat.beq r53.1 0) then some ((V.bool r53.2), []) else some ((V.bool true), []) else rcall (impl_NodeOk_l16 ((r47.2.1 - 0).toNat + 1) r47.2.1 0 (n_impl_Node r47.2.2.2)) fun r54 => bif (Nat.beq r54.1 0) then some ((V.bool r54.2), []) else some ((V.bool true), []) else bif (!(decide ((gi r47.2.2.2 5) = 0))) then bif (decide ((gi r47.2.2.2 1) < 1)) then some ((V.bool false), []) else bif (!(decide ((gi r47.2.2.2 2) = (gi r47.2.2.2 0)))) then some ((V.bool false), []) else bif (decide ((gi r47.2.2.2 5) = 2)) then bif (!(decide ((gi r47.2.2.2 6) = (gi r47.2.2.2 0)))) then some ((V.bool false), []) else rcall (impl_NodeOk_l16 ((r47.2.1 - 0).toNat + 1) r47.2.1 0 (n_impl_Node r47.2.2.2)) fun r55 => bif (Nat.beq r55.1 0) then some ((V.bool r55.2), []) else some ((V.bool true), []) else rcall (impl_NodeOk_l16 ((r47.2.1 - 0).toNat + 1) r47.2.1 0 (n_impl_Node r47.2.2.2)) fun r56 => bif (Nat.beq r56.1 0) then some ((V.bool r56.2), []) else some ((V.bool true), []) else bif (decide ((gi r47.2.2.2 5) = 2)) then bif (!(decide ((gi r47.2.2.2 6) = (gi r47.2.2.2 0)))) then some ((V.bool false), []) else rcall (impl_NodeOk_l16 ((r47.2.1 - 0).toNat + 1) r47.2.1 0 (n_impl_Node r47.2.2.2)) fun r57 => bif (Nat.beq r57.1 0) then some ((V.bool r57.2), []) else some ((V.bool true), []) else rcall (impl_NodeOk_l16 ((r47.2.1 - 0).toNat + 1) r47.2.1 0 (n_impl_Node r47.2.2.2)) fun r58 => bif (Nat.beq r58.1 0) then some ((V.bool r58.2), []) else some ((V.bool true), [])) := by kernel_rfl
  rw [h, impl_NodeOk]
  clear h
  repeat' (first | exact agr_none | refine agr_if ?_ ?_ | refine agr_call fun _ => ?_ | refine agr_let fun _ => ?_ | exact agr_leaf (by kernel_rfl))
def impl_NodeOk_s (args : List V) : Option (Bool × (V × List V)) := bif argsOk [(.agg [(.int .i64), (.int .i64), (.int .i64), (.inl t_impl_Item), (.int .i64), (.int .i64), (.int .i64), (.int .i64), (.inl t_bool), (.inl t_int'), (.inl t_int')]), (.one (.int .i64))] args then some ((impl_NodeOk (rd args 0) ((rd args 1).I)).isSome, impl_NodeOk_sh ((impl_NodeOk (rd args 0) ((rd args 1).I)).getD default)) else none
theorem impl_NodeOk_s_ok : ∀ args r, impl_NodeOk_s args = some (true, r) → SumOk Try.prog tab 35 args r :=
  Base.sum (cfg := impl_NodeOk_c) (F := fun args => impl_NodeOk (rd args 0) ((rd args 1).I)) (shr := impl_NodeOk_sh) base impl_NodeOk_c_ok Try.func35 (by kernel_rfl) impl_NodeOk_lo [(.agg [(.int .i64), (.int .i64), (.int .i64), (.inl t_impl_Item), (.int .i64), (.int .i64), (.int .i64), (.int .i64), (.inl t_bool), (.inl t_int'), (.inl t_int')]), (.one (.int .i64))] (by kernel_rfl) [[.dead]] [] (by kernel_rfl) fun args h => by
    have q := impl_NodeOk_e (rd args 0) ((rd args 1).I)
    rw [show [(n_impl_Node (rd args 0)), (V.int .i64 ((rd args 1).I))] = args from h] at q
    exact q
end Go.Eng.R
open Go Go.Eng Go.Proofs
namespace Go.Eng.R
def impl_NodeNew_c : Cfg := ⟨tab, sumsOf [(89, impl_isServer_s)], fun _ => false, fun f => (look [(89, [none, none])] f).getD [], false⟩
theorem impl_NodeNew_c_ok : SumsOk Try.prog tab impl_NodeNew_c.sums := sums_cons f89_en impl_isServer_s_ok (sums_nil)
def impl_NodeNew_L : Loops := ⟨fun k => (look [] k).getD [], fun k => (look [] k).getD [], fun k => (look [] k).getD [], runL []⟩
def impl_NodeNew_sh (r_ : V × Bool) : V × List V := ((V.tup [(V.agg [(V.int .i64 (gi r_.1 0)), (V.int .i64 (gi r_.1 1)), (V.int .i64 (gi r_.1 2)), (V.rr t_impl_Item true (gl r_.1 3)), (V.int .i64 (gi r_.1 4)), (V.int .i64 (gi r_.1 5)), (V.int .i64 (gi r_.1 6)), (V.int .i64 (gi r_.1 7)), (V.rr t_bool true (gl r_.1 8)), (V.rr t_int' true (gl r_.1 9)), (V.rr t_int' true (gl r_.1 10))]), (V.bool r_.2)]), [])
theorem impl_NodeNew_e (id : Int) (servers : Int) : Agr (wkF [[.dead, .dead, .dead, (.rr t_impl_Item true), .dead, .dead, .dead, .dead, (.rr t_bool true), (.rr t_int' true), (.rr t_int' true)], [.dead]] []) impl_NodeNew_sh (impl_NodeNew id servers) (evalFn impl_NodeNew_c impl_NodeNew_L Try.f46 [(V.int .i64 id), (V.int .i64 servers)]) := by
  have h : evalFn impl_NodeNew_c impl_NodeNew_L Try.f46 [(V.int .i64 id), (V.int .i64 servers)] = (bif (!(impl_isServer id servers)) then some ((V.tup [(V.agg [(V.int .i64 0), (V.int .i64 0), (V.int .i64 0), (V.nil t_impl_Item), (V.int .i64 0), (V.int .i64 0), (V.int .i64 0), (V.int .i64 0), (V.nil t_bool), (V.nil t_int'), (V.nil t_int')]), (V.bool false)]), []) else bif (((decide ((0 : Int) ≤ servers)) && decide (servers = servers)) && (roomy servers.toNat 1)) then bif (((decide ((0 : Int) ≤ servers)) && decide (servers = servers)) && (roomy servers.toNat 8)) then bif (((decide ((0 : Int) ≤ servers)) && decide (servers = servers)) && (roomy servers.toNat 8)) then some ((V.tup [(V.agg [(V.int .i64 id), (V.int .i64 0), (V.int .i64 (-1)), (V.nil t_impl_Item), (V.int .i64 0), (V.int .i64 0), (V.int .i64 (-1)), (V.int .i64 0), (V.rr t_bool true (List.replicate servers.toNat (V.bool false))), (V.rr t_int' true (List.replicate servers.toNat (V.int .i64 0))), (V.rr t_int' true (List.replicate servers.toNat (V.int .i64 0)))]), (V.bool true)]), []) else none else none else none) := by kernel_rfl
  rw [h, impl_NodeNew]
  clear h
  repeat' (first | exact agr_none | refine agr_if ?_ ?_ | refine agr_call fun _ => ?_ | refine agr_let fun _ => ?_ | exact agr_leaf (by kernel_rfl))
def impl_NodeNew_s (args : List V) : Option (Bool × (V × List V)) := bif argsOk [(.one (.int .i64)), (.one (.int .i64))] args then some ((impl_NodeNew ((rd args 0).I) ((rd args 1).I)).isSome, impl_NodeNew_sh ((impl_NodeNew ((rd args 0).I) ((rd args 1).I)).getD default)) else none
theorem impl_NodeNew_s_ok : ∀ args r, impl_NodeNew_s args = some (true, r) → SumOk Try.prog tab 46 args r :=
  Base.sum (cfg := impl_NodeNew_c) (F := fun args => impl_NodeNew ((rd args 0).I) ((rd args 1).I)) (shr := impl_NodeNew_sh) base impl_NodeNew_c_ok Try.func46 (by kernel_rfl) (GoodAll.ok (l := []) GoodAll.nil rfl) [(.one (.int .i64)), (.one (.int .i64))] (by kernel_rfl) [[.dead, .dead, .dead, (.rr t_impl_Item true), .dead, .dead, .dead, .dead, (.rr t_bool true), (.rr t_int' true), (.rr t_int' true)], [.dead]] [] (by kernel_rfl) fun args h => by
    have q := impl_NodeNew_e ((rd args 0).I) ((rd args 1).I)
    rw [show [(V.int .i64 ((rd args 0).I)), (V.int .i64 ((rd args 1).I))] = args from h] at q
    exact q
def slices_Clone_byte_c : Cfg := ⟨tab, sumsOf [], fun _ => false, fun f => (look [] f).getD [], false⟩
theorem slices_Clone_byte_c_ok : SumsOk Try.prog tab slices_Clone_byte_c.sums := sums_nil
def slices_Clone_byte_L : Loops := ⟨fun k => (look [] k).getD [], fun k => (look [] k).getD [], fun k => (look [] k).getD [], runL []⟩
def slices_Clone_byte_sh (r_ : List V) : V × List V := ((V.rr t_byte true r_), [])
theorem slices_Clone_byte_e1 (s : List V) : Agr (wkF [[(.rr t_byte true)]] []) slices_Clone_byte_sh (slices_Clone_byte s) (evalFn slices_Clone_byte_c slices_Clone_byte_L Try.f144 [(V.nn t_byte s)]) := by
  have h : evalFn slices_Clone_byte_c slices_Clone_byte_L Try.f144 [(V.nn t_byte s)] = (bif ((roomy (0 + s.length) 1) && true) then some ((V.rr t_byte true s), []) else none) := by kernel_rfl
  rw [h, slices_Clone_byte]
  clear h
  repeat' (first | exact agr_none | refine agr_if ?_ ?_ | refine agr_call fun _ => ?_ | refine agr_let fun _ => ?_ | exact agr_leaf (by kernel_rfl))
theorem slices_Clone_byte_e2 : Agr (wkF [[(.rr t_byte true)]] []) slices_Clone_byte_sh (slices_Clone_byte []) (evalFn slices_Clone_byte_c slices_Clone_byte_L Try.f144 [(V.nl t_byte)]) := by
  have h : evalFn slices_Clone_byte_c slices_Clone_byte_L Try.f144 [(V.nl t_byte)] = (some ((V.nil t_byte), [])) := by kernel_rfl
  rw [h, slices_Clone_byte]
  clear h
  intro r h; revert h; simp only [List.length_nil]; intro h; first | (cases h; kernel_rfl) | (revert h; simp [roomy]; intro h; subst h; kernel_rfl)
def slices_Clone_byte_s (args : List V) : Option (Bool × (V × List V)) := bif argsOk [(.one (.inl t_byte))] args then some ((slices_Clone_byte (rd args 0).L).isSome, slices_Clone_byte_sh ((slices_Clone_byte (rd args 0).L).getD default)) else none
theorem slices_Clone_byte_s_ok : ∀ args r, slices_Clone_byte_s args = some (true, r) → SumOk Try.prog tab 144 args r :=
  Base.sumNil (cfg := slices_Clone_byte_c) (F := slices_Clone_byte) (shr := slices_Clone_byte_sh) base slices_Clone_byte_c_ok Try.func144 (by kernel_rfl) (GoodAll.ok (l := []) GoodAll.nil rfl) t_byte (by kernel_rfl) [[(.rr t_byte true)]] [] (by kernel_rfl) slices_Clone_byte_e1 slices_Clone_byte_e2
def impl_Op_own_c : Cfg := ⟨tab, sumsOf [(144, slices_Clone_byte_s)], fun _ => false, fun f => (look [(144, [some t_byte])] f).getD [], false⟩
theorem impl_Op_own_c_ok : SumsOk Try.prog tab impl_Op_own_c.sums := sums_cons f144_en slices_Clone_byte_s_ok (sums_nil)
def impl_Op_own_L : Loops := ⟨fun k => (look [] k).getD [], fun k => (look [] k).getD [], fun k => (look [] k).getD [], runL []⟩
def impl_Op_own_sh (r_ : V) : V × List V := ((V.agg [(V.int .i64 (gi r_ 0)), (V.rr t_byte true (gl r_ 1)), (V.rr t_byte true (gl r_ 2)), (V.int .i64 (gi r_ 3))]), [])
theorem impl_Op_own_e (o : V) : Agr (wkF [[.dead, (.rr t_byte true), (.rr t_byte true), .dead]] []) impl_Op_own_sh (impl_Op_own o) (evalFn impl_Op_own_c impl_Op_own_L Try.f132 [(n_laws_Op o)]) := by
  have h : evalFn impl_Op_own_c impl_Op_own_L Try.f132 [(n_laws_Op o)] = (rcall (slices_Clone_byte (gl o 1)) fun r61 => rcall (slices_Clone_byte (gl o 2)) fun r62 => some ((V.agg [(V.int .i64 (gi o 0)), (V.rr t_byte true r61), (V.rr t_byte true r62), (V.int .i64 (gi o 3))]), [])) := by kernel_rfl
  rw [h, impl_Op_own]
  clear h
  repeat' (first | exact agr_none | refine agr_if ?_ ?_ | refine agr_call fun _ => ?_ | refine agr_let fun _ => ?_ | exact agr_leaf (by kernel_rfl))
def impl_Op_own_s (args : List V) : Option (Bool × (V × List V)) := bif argsOk [(.agg [(.int .i64), (.inl t_byte), (.inl t_byte), (.int .i64)])] args then some ((impl_Op_own (rd args 0)).isSome, impl_Op_own_sh ((impl_Op_own (rd args 0)).getD default)) else none
theorem impl_Op_own_s_ok : ∀ args r, impl_Op_own_s args = some (true, r) → SumOk Try.prog tab 132 args r :=
  Base.sum (cfg := impl_Op_own_c) (F := fun args => impl_Op_own (rd args 0)) (shr := impl_Op_own_sh) base impl_Op_own_c_ok Try.func132 (by kernel_rfl) (GoodAll.ok (l := []) GoodAll.nil rfl) [(.agg [(.int .i64), (.inl t_byte), (.inl t_byte), (.int .i64)])] (by kernel_rfl) [[.dead, (.rr t_byte true), (.rr t_byte true), .dead]] [] (by kernel_rfl) fun args h => by
    have q := impl_Op_own_e (rd args 0)
    rw [show [(n_laws_Op (rd args 0))] = args from h] at q
    exact q
def impl_Cmd_own_c : Cfg := ⟨tab, sumsOf [(132, impl_Op_own_s)], fun _ => false, fun f => (look [(132, [none])] f).getD [], false⟩
theorem impl_Cmd_own_c_ok : SumsOk Try.prog tab impl_Cmd_own_c.sums := sums_cons f132_en impl_Op_own_s_ok (sums_nil)
def impl_Cmd_own_L : Loops := ⟨fun k => (look [] k).getD [], fun k => (look [] k).getD [], fun k => (look [] k).getD [], runL []⟩
def impl_Cmd_own_sh (r_ : V) : V × List V := ((V.agg [(V.int .i64 (gi r_ 0)), (V.int .i64 (gi r_ 1)), (V.int .i64 (gi r_ 2)), (V.rr t_byte true (gl r_ 3)), (V.rr t_byte true (gl r_ 4)), (V.int .i64 (gi r_ 5))]), [])
theorem impl_Cmd_own_e (c : V) : Agr (wkF [[.dead, .dead, .dead, (.rr t_byte true), (.rr t_byte true), .dead]] []) impl_Cmd_own_sh (impl_Cmd_own c) (evalFn impl_Cmd_own_c impl_Cmd_own_L Try.f98 [(n_laws_Cmd c)]) := by
  have h : evalFn impl_Cmd_own_c impl_Cmd_own_L Try.f98 [(n_laws_Cmd c)] = (rcall (impl_Op_own (V.agg [(V.int .i64 (gi c 2)), (V.inl t_byte (gl c 3)), (V.inl t_byte (gl c 4)), (V.int .i64 (gi c 5))])) fun r63 => some ((V.agg [(V.int .i64 (gi c 0)), (V.int .i64 (gi c 1)), (V.int .i64 (gi r63 0)), (V.rr t_byte true (gl r63 1)), (V.rr t_byte true (gl r63 2)), (V.int .i64 (gi r63 3))]), [])) := by kernel_rfl
  rw [h, impl_Cmd_own]
  clear h
  repeat' (first | exact agr_none | refine agr_if ?_ ?_ | refine agr_call fun _ => ?_ | refine agr_let fun _ => ?_ | exact agr_leaf (by kernel_rfl))
def impl_Cmd_own_s (args : List V) : Option (Bool × (V × List V)) := bif argsOk [(.agg [(.int .i64), (.int .i64), (.int .i64), (.inl t_byte), (.inl t_byte), (.int .i64)])] args then some ((impl_Cmd_own (rd args 0)).isSome, impl_Cmd_own_sh ((impl_Cmd_own (rd args 0)).getD default)) else none
theorem impl_Cmd_own_s_ok : ∀ args r, impl_Cmd_own_s args = some (true, r) → SumOk Try.prog tab 98 args r :=
  Base.sum (cfg := impl_Cmd_own_c) (F := fun args => impl_Cmd_own (rd args 0)) (shr := impl_Cmd_own_sh) base impl_Cmd_own_c_ok Try.func98 (by kernel_rfl) (GoodAll.ok (l := []) GoodAll.nil rfl) [(.agg [(.int .i64), (.int .i64), (.int .i64), (.inl t_byte), (.inl t_byte), (.int .i64)])] (by kernel_rfl) [[.dead, .dead, .dead, (.rr t_byte true), (.rr t_byte true), .dead]] [] (by kernel_rfl) fun args h => by
    have q := impl_Cmd_own_e (rd args 0)
    rw [show [(n_laws_Cmd (rd args 0))] = args from h] at q
    exact q
def impl_ownItems_c : Cfg := ⟨tab, sumsOf [(98, impl_Cmd_own_s)], fun _ => false, fun f => (look [(98, [none])] f).getD [], false⟩
theorem impl_ownItems_c_ok : SumsOk Try.prog tab impl_ownItems_c.sums := sums_cons f98_en impl_Cmd_own_s_ok (sums_nil)
def impl_ownItems_l3_e : LE := ⟨3, ⟨[(3, (.one (.sl 0 t_impl_Item))), (6, (.one (.inl t_impl_Item))), (7, (.one (.int .i64))), (8, (.one (.int .i64)))], [(.row t_impl_Item true)], 1, []⟩, fun st => Out.tst (impl_ownItems_l3 ((((sv st 2).I) - ((sv st 3).I)).toNat + 1) ((sv st 1).L) ((sv st 2).I) ((sv st 3).I) (br st 0)).isSome (brs ((fun r_ => 0) ((impl_ownItems_l3 ((((sv st 2).I) - ((sv st 3).I)).toNat + 1) ((sv st 1).L) ((sv st 2).I) ((sv st 3).I) (br st 0)).getD default)) 0 ((fun r_ => [((Ex.exit 0), (⟨[(3, (V.sl 0 t_impl_Item 0 none))], [(0, some (Blk.row t_impl_Item true r_))], 1, []⟩ : St))]) ((impl_ownItems_l3 ((((sv st 2).I) - ((sv st 3).I)).toNat + 1) ((sv st 1).L) ((sv st 2).I) ((sv st 3).I) (br st 0)).getD default)))⟩
def impl_ownItems_L : Loops := ⟨fun k => (look [(3, [3, 6, 7, 8])] k).getD [], fun k => (look [(3, [⟨3, none, true⟩])] k).getD [], fun k => (look [(3, [3])] k).getD [], runL [impl_ownItems_l3_e]⟩
theorem impl_ownItems_l3_ok (k_ : Nat) : ∀ (v6 : List V) (v7 : Int) (v8 : Int) (r0 : List V), Agr id (fun r_ => pick (0) 0 [((Ex.exit 0), (⟨[(3, (V.sl 0 t_impl_Item 0 none))], [(0, some (Blk.row t_impl_Item true r_))], 1, []⟩ : St))]) (impl_ownItems_l3 k_ v6 v7 v8 r0) (rounds impl_ownItems_c impl_ownItems_L ((loopsIn (bodyOf Try.f47)).getD 0 .skip) k_ (⟨[(3, (V.sl 0 t_impl_Item 0 none)), (6, (V.inl t_impl_Item v6)), (7, (V.int .i64 v7)), (8, (V.int .i64 v8))], [(0, some (Blk.row t_impl_Item true r0))], 1, []⟩ : St)) := by
  induction k_ with
  | zero => intros; exact agr_none
  | succ k_ ih =>
    intro v6 v7 v8 r0
    have h : rounds impl_ownItems_c impl_ownItems_L ((loopsIn (bodyOf Try.f47)).getD 0 .skip) (k_ + 1) (⟨[(3, (V.sl 0 t_impl_Item 0 none)), (6, (V.inl t_impl_Item v6)), (7, (V.int .i64 v7)), (8, (V.int .i64 v8))], [(0, some (Blk.row t_impl_Item true r0))], 1, []⟩ : St) = (bif (decide (v8 < v7)) then bif (idxOk v8 v6.length) then rcall (impl_Cmd_own (V.agg [(V.int .i64 (gi (rd v6 v8.toNat) 1)), (V.int .i64 (gi (rd v6 v8.toNat) 2)), (V.int .i64 (gi (rd v6 v8.toNat) 3)), (V.inl t_byte (gl (rd v6 v8.toNat) 4)), (V.inl t_byte (gl (rd v6 v8.toNat) 5)), (V.int .i64 (gi (rd v6 v8.toNat) 6))])) fun r64 => bif ((roomy (r0.length + 1) 88) && true) then rounds impl_ownItems_c impl_ownItems_L ((loopsIn (bodyOf Try.f47)).getD 0 .skip) k_ (⟨[(3, (V.sl 0 t_impl_Item 0 none)), (6, (V.inl t_impl_Item v6)), (7, (V.int .i64 v7)), (8, (V.int .i64 (IntKind.i64.wrap (v8 + 1))))], [(0, some (Blk.row t_impl_Item true (r0 ++ [(V.agg [(V.int .i64 (gi (rd v6 v8.toNat) 0)), (V.int .i64 (gi r64 0)), (V.int .i64 (gi r64 1)), (V.int .i64 (gi r64 2)), (V.inl t_byte (gl r64 3)), (V.inl t_byte (gl r64 4)), (V.int .i64 (gi r64 5))])])))], 1, []⟩ : St) else none else none else some ((Ex.exit 0), (⟨[(3, (V.sl 0 t_impl_Item 0 none))], [(0, some (Blk.row t_impl_Item true r0))], 1, []⟩ : St))) := by kernel_rfl
    rw [h, impl_ownItems_l3]
    clear h
    repeat' (first | exact agr_none | refine agr_if ?_ ?_ | refine agr_call fun _ => ?_ | refine agr_let fun _ => ?_ | exact agr_leaf (by kernel_rfl) | exact ih _ _ _ _)
theorem impl_ownItems_lo : LoopsOk impl_ownItems_c impl_ownItems_L (bodyOf Try.f47) := by
  refine GoodAll.ok (l := [impl_ownItems_l3_e]) ?_ rfl
  refine GoodAll.cons 0 (by kernel_rfl) ?_ ?_
  · exact good_of (key := 3) (ss := ⟨[(3, (.one (.sl 0 t_impl_Item))), (6, (.one (.inl t_impl_Item))), (7, (.one (.int .i64))), (8, (.one (.int .i64)))], [(.row t_impl_Item true)], 1, []⟩) (F := fun st => impl_ownItems_l3 ((((sv st 2).I) - ((sv st 3).I)).toNat + 1) ((sv st 1).L) ((sv st 2).I) ((sv st 3).I) (br st 0)) (ix := fun r_ => 0) (ps := fun r_ => [((Ex.exit 0), (⟨[(3, (V.sl 0 t_impl_Item 0 none))], [(0, some (Blk.row t_impl_Item true r_))], 1, []⟩ : St))]) (fun st => (((sv st 2).I) - ((sv st 3).I)).toNat + 1) fun st h => by
      have q := impl_ownItems_l3_ok ((((sv st 2).I) - ((sv st 3).I)).toNat + 1) ((sv st 1).L) ((sv st 2).I) ((sv st 3).I) (br st 0)
      rw [show (⟨[(3, (V.sl 0 t_impl_Item 0 none)), (6, (V.inl t_impl_Item ((sv st 1).L))), (7, (V.int .i64 ((sv st 2).I))), (8, (V.int .i64 ((sv st 3).I)))], [(0, some (Blk.row t_impl_Item true (br st 0)))], 1, []⟩ : St) = st from h] at q
      exact q
  exact GoodAll.nil
def impl_ownItems_sh (r_ : List V) : V × List V := ((V.rr t_impl_Item true r_), [])
theorem impl_ownItems_e (list : List V) : Agr (wkF [[(.rr t_impl_Item true)]] []) impl_ownItems_sh (impl_ownItems list) (evalFn impl_ownItems_c impl_ownItems_L Try.f47 [(V.inl t_impl_Item list)]) := by
  have h : evalFn impl_ownItems_c impl_ownItems_L Try.f47 [(V.inl t_impl_Item list)] = (rcall (impl_ownItems_l3 ((((list.length : Nat) : Int) - 0).toNat + 1) list ((list.length : Nat) : Int) 0 []) fun r65 => some ((V.rr t_impl_Item true r65), [])) := by kernel_rfl
  rw [h, impl_ownItems]
  clear h
  repeat' (first | exact agr_none | refine agr_if ?_ ?_ | refine agr_call fun _ => ?_ | refine agr_let fun _ => ?_ | exact agr_leaf (by kernel_rfl))
def impl_ownItems_s (args : List V) : Option (Bool × (V × List V)) := bif argsOk [(.one (.inl t_impl_Item))] args then some ((impl_ownItems ((rd args 0).L)).isSome, impl_ownItems_sh ((impl_ownItems ((rd args 0).L)).getD default)) else none
theorem impl_ownItems_s_ok : ∀ args r, impl_ownItems_s args = some (true, r) → SumOk Try.prog tab 47 args r :=
  Base.sum (cfg := impl_ownItems_c) (F := fun args => impl_ownItems ((rd args 0).L)) (shr := impl_ownItems_sh) base impl_ownItems_c_ok Try.func47 (by kernel_rfl) impl_ownItems_lo [(.one (.inl t_impl_Item))] (by kernel_rfl) [[(.rr t_impl_Item true)]] [] (by kernel_rfl) fun args h => by
    have q := impl_ownItems_e ((rd args 0).L)
    rw [show [(V.inl t_impl_Item ((rd args 0).L))] = args from h] at q
    exact q
def impl_Fall_c : Cfg := ⟨tab, sumsOf [(35, impl_NodeOk_s), (46, impl_NodeNew_s), (47, impl_ownItems_s)], fun _ => false, fun f => (look [(35, [none, none]), (46, [none, none]), (47, [some t_impl_Item])] f).getD [], false⟩
theorem impl_Fall_c_ok : SumsOk Try.prog tab impl_Fall_c.sums := sums_cons f35_en impl_NodeOk_s_ok (sums_cons f46_en impl_NodeNew_s_ok (sums_cons f47_en impl_ownItems_s_ok (sums_nil)))
def impl_Fall_L : Loops := ⟨fun k => (look [] k).getD [], fun k => (look [] k).getD [], fun k => (look [] k).getD [], runL []⟩
def impl_Fall_sh (r_ : V) : V × List V := ((V.agg [(V.int .i64 (gi r_ 0)), (V.int .i64 (gi r_ 1)), (V.int .i64 (gi r_ 2)), (V.rr t_impl_Item true (gl r_ 3)), (V.int .i64 (gi r_ 4)), (V.int .i64 (gi r_ 5)), (V.int .i64 (gi r_ 6)), (V.int .i64 (gi r_ 7)), (V.rr t_bool true (gl r_ 8)), (V.rr t_int' true (gl r_ 9)), (V.rr t_int' true (gl r_ 10))]), [])
theorem impl_Fall_e (n : V) (servers : Int) : Agr (wkF [[.dead, .dead, .dead, (.rr t_impl_Item true), .dead, .dead, .dead, .dead, (.rr t_bool true), (.rr t_int' true), (.rr t_int' true)]] []) impl_Fall_sh (impl_Fall n servers) (evalFn impl_Fall_c impl_Fall_L Try.f11 [(n_impl_Node n), (V.int .i64 servers)]) := by
  have h : evalFn impl_Fall_c impl_Fall_L Try.f11 [(n_impl_Node n), (V.int .i64 servers)] = (rcall (impl_NodeOk (n_impl_Node n) servers) fun r59 => bif (!r59) then some ((V.agg [(V.int .i64 0), (V.int .i64 0), (V.int .i64 0), (V.nil t_impl_Item), (V.int .i64 0), (V.int .i64 0), (V.int .i64 0), (V.int .i64 0), (V.nil t_bool), (V.nil t_int'), (V.nil t_int')]), []) else rcall (impl_NodeNew (gi n 0) servers) fun r60 => rcall (impl_ownItems (gl n 3)) fun r66 => some ((V.agg [(V.int .i64 (gi r60.1 0)), (V.int .i64 (gi n 1)), (V.int .i64 (gi n 2)), (V.rr t_impl_Item true r66), (V.int .i64 (gi r60.1 4)), (V.int .i64 (gi r60.1 5)), (V.int .i64 (gi r60.1 6)), (V.int .i64 (gi r60.1 7)), (V.rr t_bool true (gl r60.1 8)), (V.rr t_int' true (gl r60.1 9)), (V.rr t_int' true (gl r60.1 10))]), [])) := by kernel_rfl
  rw [h, impl_Fall]
  clear h
  repeat' (first | exact agr_none | refine agr_if ?_ ?_ | refine agr_call fun _ => ?_ | refine agr_let fun _ => ?_ | exact agr_leaf (by kernel_rfl))
def impl_Fall_s (args : List V) : Option (Bool × (V × List V)) := bif argsOk [(.agg [(.int .i64), (.int .i64), (.int .i64), (.inl t_impl_Item), (.int .i64), (.int .i64), (.int .i64), (.int .i64), (.inl t_bool), (.inl t_int'), (.inl t_int')]), (.one (.int .i64))] args then some ((impl_Fall (rd args 0) ((rd args 1).I)).isSome, impl_Fall_sh ((impl_Fall (rd args 0) ((rd args 1).I)).getD default)) else none
theorem impl_Fall_s_ok : ∀ args r, impl_Fall_s args = some (true, r) → SumOk Try.prog tab 11 args r :=
  Base.sum (cfg := impl_Fall_c) (F := fun args => impl_Fall (rd args 0) ((rd args 1).I)) (shr := impl_Fall_sh) base impl_Fall_c_ok Try.func11 (by kernel_rfl) (GoodAll.ok (l := []) GoodAll.nil rfl) [(.agg [(.int .i64), (.int .i64), (.int .i64), (.inl t_impl_Item), (.int .i64), (.int .i64), (.int .i64), (.int .i64), (.inl t_bool), (.inl t_int'), (.inl t_int')]), (.one (.int .i64))] (by kernel_rfl) [[.dead, .dead, .dead, (.rr t_impl_Item true), .dead, .dead, .dead, .dead, (.rr t_bool true), (.rr t_int' true), (.rr t_int' true)]] [] (by kernel_rfl) fun args h => by
    have q := impl_Fall_e (rd args 0) ((rd args 1).I)
    rw [show [(n_impl_Node (rd args 0)), (V.int .i64 ((rd args 1).I))] = args from h] at q
    exact q
def laws_eqByteS_c : Cfg := ⟨tab, sumsOf [], fun _ => false, fun f => (look [] f).getD [], false⟩
theorem laws_eqByteS_c_ok : SumsOk Try.prog tab laws_eqByteS_c.sums := sums_nil
def laws_eqByteS_l4_e : LE := ⟨4, ⟨[(0, (.one (.inl t_byte))), (1, (.one (.inl t_byte))), (5, (.one (.int .i64)))], [], 0, []⟩, fun st => Out.tst (laws_eqByteS_l4 ((((((sv st 0).L).length : Nat) : Int) - ((sv st 2).I)).toNat + 1) ((sv st 0).L) ((sv st 1).L) ((sv st 2).I)).isSome (brs ((fun r_ => r_.1) ((laws_eqByteS_l4 ((((((sv st 0).L).length : Nat) : Int) - ((sv st 2).I)).toNat + 1) ((sv st 0).L) ((sv st 1).L) ((sv st 2).I)).getD default)) 0 ((fun r_ => [(Ex.ret, (⟨[(4, (V.bool r_.2))], [], 0, []⟩ : St)), ((Ex.exit 0), (⟨[(4, V.dead)], [], 0, []⟩ : St))]) ((laws_eqByteS_l4 ((((((sv st 0).L).length : Nat) : Int) - ((sv st 2).I)).toNat + 1) ((sv st 0).L) ((sv st 1).L) ((sv st 2).I)).getD default)))⟩
def laws_eqByteS_L : Loops := ⟨fun k => (look [(4, [0, 1, 5])] k).getD [], fun k => (look [] k).getD [], fun k => (look [(4, [4])] k).getD [], runL [laws_eqByteS_l4_e]⟩
theorem laws_eqByteS_l4_ok (k_ : Nat) : ∀ (a0 : List V) (b1 : List V) (i5 : Int), Agr id (fun r_ => pick (r_.1) 0 [(Ex.ret, (⟨[(4, (V.bool r_.2))], [], 0, []⟩ : St)), ((Ex.exit 0), (⟨[(4, V.dead)], [], 0, []⟩ : St))]) (laws_eqByteS_l4 k_ a0 b1 i5) (rounds laws_eqByteS_c laws_eqByteS_L ((loopsIn (bodyOf Try.f116)).getD 0 .skip) k_ (⟨[(0, (V.inl t_byte a0)), (1, (V.inl t_byte b1)), (5, (V.int .i64 i5))], [], 0, []⟩ : St)) := by
  induction k_ with
  | zero => intros; exact agr_none
  | succ k_ ih =>
    intro a0 b1 i5
    have h : rounds laws_eqByteS_c laws_eqByteS_L ((loopsIn (bodyOf Try.f116)).getD 0 .skip) (k_ + 1) (⟨[(0, (V.inl t_byte a0)), (1, (V.inl t_byte b1)), (5, (V.int .i64 i5))], [], 0, []⟩ : St) = (bif (decide (i5 < ((a0.length : Nat) : Int))) then bif (idxOk i5 a0.length) then bif (idxOk i5 b1.length) then bif (!(decide ((gi (rd a0 i5.toNat) 0) = (gi (rd b1 i5.toNat) 0)))) then some (Ex.ret, (⟨[(4, (V.bool false))], [], 0, []⟩ : St)) else rounds laws_eqByteS_c laws_eqByteS_L ((loopsIn (bodyOf Try.f116)).getD 0 .skip) k_ (⟨[(0, (V.inl t_byte a0)), (1, (V.inl t_byte b1)), (5, (V.int .i64 (IntKind.i64.wrap (i5 + 1))))], [], 0, []⟩ : St) else none else none else some ((Ex.exit 0), (⟨[(4, V.dead)], [], 0, []⟩ : St))) := by kernel_rfl
    rw [h, laws_eqByteS_l4]
    clear h
    repeat' (first | exact agr_none | refine agr_if ?_ ?_ | refine agr_call fun _ => ?_ | refine agr_let fun _ => ?_ | exact agr_leaf (by kernel_rfl) | exact ih _ _ _)
theorem laws_eqByteS_lo : LoopsOk laws_eqByteS_c laws_eqByteS_L (bodyOf Try.f116) := by
  refine GoodAll.ok (l := [laws_eqByteS_l4_e]) ?_ rfl
  refine GoodAll.cons 0 (by kernel_rfl) ?_ ?_
  · exact good_of (key := 4) (ss := ⟨[(0, (.one (.inl t_byte))), (1, (.one (.inl t_byte))), (5, (.one (.int .i64)))], [], 0, []⟩) (F := fun st => laws_eqByteS_l4 ((((((sv st 0).L).length : Nat) : Int) - ((sv st 2).I)).toNat + 1) ((sv st 0).L) ((sv st 1).L) ((sv st 2).I)) (ix := fun r_ => r_.1) (ps := fun r_ => [(Ex.ret, (⟨[(4, (V.bool r_.2))], [], 0, []⟩ : St)), ((Ex.exit 0), (⟨[(4, V.dead)], [], 0, []⟩ : St))]) (fun st => (((((sv st 0).L).length : Nat) : Int) - ((sv st 2).I)).toNat + 1) fun st h => by
      have q := laws_eqByteS_l4_ok ((((((sv st 0).L).length : Nat) : Int) - ((sv st 2).I)).toNat + 1) ((sv st 0).L) ((sv st 1).L) ((sv st 2).I)
      rw [show (⟨[(0, (V.inl t_byte ((sv st 0).L))), (1, (V.inl t_byte ((sv st 1).L))), (5, (V.int .i64 ((sv st 2).I)))], [], 0, []⟩ : St) = st from h] at q
      exact q
  exact GoodAll.nil
def laws_eqByteS_sh (r_ : Bool) : V × List V := ((V.bool r_), [])
theorem laws_eqByteS_e (a : List V) (b : List V) : Agr (wkF [[.dead]] []) laws_eqByteS_sh (laws_eqByteS a b) (evalFn laws_eqByteS_c laws_eqByteS_L Try.f116 [(V.inl t_byte a), (V.inl t_byte b)]) := by
  have h : evalFn laws_eqByteS_c laws_eqByteS_L Try.f116 [(V.inl t_byte a), (V.inl t_byte b)] = (bif (!(decide (((a.length : Nat) : Int) = ((b.length : Nat) : Int)))) then some ((V.bool false), []) else rcall (laws_eqByteS_l4 ((((a.length : Nat) : Int) - 0).toNat + 1) a b 0) fun r68 => bif (Nat.beq r68.1 0) then some ((V.bool r68.2), []) else some ((V.bool true), [])) := by kernel_rfl
  rw [h, laws_eqByteS]
  clear h
  repeat' (first | exact agr_none | refine agr_if ?_ ?_ | refine agr_call fun _ => ?_ | refine agr_let fun _ => ?_ | exact agr_leaf (by kernel_rfl))
def laws_eqByteS_s (args : List V) : Option (Bool × (V × List V)) := bif argsOk [(.one (.inl t_byte)), (.one (.inl t_byte))] args then some ((laws_eqByteS ((rd args 0).L) ((rd args 1).L)).isSome, laws_eqByteS_sh ((laws_eqByteS ((rd args 0).L) ((rd args 1).L)).getD default)) else none
theorem laws_eqByteS_s_ok : ∀ args r, laws_eqByteS_s args = some (true, r) → SumOk Try.prog tab 116 args r :=
  Base.sum (cfg := laws_eqByteS_c) (F := fun args => laws_eqByteS ((rd args 0).L) ((rd args 1).L)) (shr := laws_eqByteS_sh) base laws_eqByteS_c_ok Try.func116 (by kernel_rfl) laws_eqByteS_lo [(.one (.inl t_byte)), (.one (.inl t_byte))] (by kernel_rfl) [[.dead]] [] (by kernel_rfl) fun args h => by
    have q := laws_eqByteS_e ((rd args 0).L) ((rd args 1).L)
    rw [show [(V.inl t_byte ((rd args 0).L)), (V.inl t_byte ((rd args 1).L))] = args from h] at q
    exact q
def laws_eqOp_c : Cfg := ⟨tab, sumsOf [(116, laws_eqByteS_s)], fun _ => false, fun f => (look [(116, [some t_byte, some t_byte])] f).getD [], false⟩
theorem laws_eqOp_c_ok : SumsOk Try.prog tab laws_eqOp_c.sums := sums_cons f116_en laws_eqByteS_s_ok (sums_nil)
def laws_eqOp_L : Loops := ⟨fun k => (look [] k).getD [], fun k => (look [] k).getD [], fun k => (look [] k).getD [], runL []⟩
def laws_eqOp_sh (r_ : Bool) : V × List V := ((V.bool r_), [])
theorem laws_eqOp_e (a : V) (b : V) : Agr (wkF [[.dead]] []) laws_eqOp_sh (laws_eqOp a b) (evalFn laws_eqOp_c laws_eqOp_L Try.f71 [(n_laws_Op a), (n_laws_Op b)]) := by
  have h : evalFn laws_eqOp_c laws_eqOp_L Try.f71 [(n_laws_Op a), (n_laws_Op b)] = (bif (!(decide ((gi a 0) = (gi b 0)))) then some ((V.bool false), []) else rcall (laws_eqByteS (gl a 1) (gl b 1)) fun r69 => bif (!r69) then some ((V.bool false), []) else rcall (laws_eqByteS (gl a 2) (gl b 2)) fun r70 => bif (!r70) then some ((V.bool false), []) else bif (!(decide ((gi a 3) = (gi b 3)))) then some ((V.bool false), []) else some ((V.bool true), [])) := by kernel_rfl
  rw [h, laws_eqOp]
  clear h
  repeat' (first | exact agr_none | refine agr_if ?_ ?_ | refine agr_call fun _ => ?_ | refine agr_let fun _ => ?_ | exact agr_leaf (by kernel_rfl))
def laws_eqOp_s (args : List V) : Option (Bool × (V × List V)) := bif argsOk [(.agg [(.int .i64), (.inl t_byte), (.inl t_byte), (.int .i64)]), (.agg [(.int .i64), (.inl t_byte), (.inl t_byte), (.int .i64)])] args then some ((laws_eqOp (rd args 0) (rd args 1)).isSome, laws_eqOp_sh ((laws_eqOp (rd args 0) (rd args 1)).getD default)) else none
theorem laws_eqOp_s_ok : ∀ args r, laws_eqOp_s args = some (true, r) → SumOk Try.prog tab 71 args r :=
  Base.sum (cfg := laws_eqOp_c) (F := fun args => laws_eqOp (rd args 0) (rd args 1)) (shr := laws_eqOp_sh) base laws_eqOp_c_ok Try.func71 (by kernel_rfl) (GoodAll.ok (l := []) GoodAll.nil rfl) [(.agg [(.int .i64), (.inl t_byte), (.inl t_byte), (.int .i64)]), (.agg [(.int .i64), (.inl t_byte), (.inl t_byte), (.int .i64)])] (by kernel_rfl) [[.dead]] [] (by kernel_rfl) fun args h => by
    have q := laws_eqOp_e (rd args 0) (rd args 1)
    rw [show [(n_laws_Op (rd args 0)), (n_laws_Op (rd args 1))] = args from h] at q
    exact q
def laws_eqCmd_c : Cfg := ⟨tab, sumsOf [(71, laws_eqOp_s)], fun _ => false, fun f => (look [(71, [none, none])] f).getD [], false⟩
theorem laws_eqCmd_c_ok : SumsOk Try.prog tab laws_eqCmd_c.sums := sums_cons f71_en laws_eqOp_s_ok (sums_nil)
def laws_eqCmd_L : Loops := ⟨fun k => (look [] k).getD [], fun k => (look [] k).getD [], fun k => (look [] k).getD [], runL []⟩
def laws_eqCmd_sh (r_ : Bool) : V × List V := ((V.bool r_), [])
theorem laws_eqCmd_e (a : V) (b : V) : Agr (wkF [[.dead]] []) laws_eqCmd_sh (laws_eqCmd a b) (evalFn laws_eqCmd_c laws_eqCmd_L Try.f25 [(n_laws_Cmd a), (n_laws_Cmd b)]) := by
  have h : evalFn laws_eqCmd_c laws_eqCmd_L Try.f25 [(n_laws_Cmd a), (n_laws_Cmd b)] = (bif (!(decide ((gi a 0) = (gi b 0)))) then some ((V.bool false), []) else bif (!(decide ((gi a 1) = (gi b 1)))) then some ((V.bool false), []) else rcall (laws_eqOp (V.agg [(V.int .i64 (gi a 2)), (V.inl t_byte (gl a 3)), (V.inl t_byte (gl a 4)), (V.int .i64 (gi a 5))]) (V.agg [(V.int .i64 (gi b 2)), (V.inl t_byte (gl b 3)), (V.inl t_byte (gl b 4)), (V.int .i64 (gi b 5))])) fun r71 => bif (!r71) then some ((V.bool false), []) else some ((V.bool true), [])) := by kernel_rfl
  rw [h, laws_eqCmd]
  clear h
  repeat' (first | exact agr_none | refine agr_if ?_ ?_ | refine agr_call fun _ => ?_ | refine agr_let fun _ => ?_ | exact agr_leaf (by kernel_rfl))
def laws_eqCmd_s (args : List V) : Option (Bool × (V × List V)) := bif argsOk [(.agg [(.int .i64), (.int .i64), (.int .i64), (.inl t_byte), (.inl t_byte), (.int .i64)]), (.agg [(.int .i64), (.int .i64), (.int .i64), (.inl t_byte), (.inl t_byte), (.int .i64)])] args then some ((laws_eqCmd (rd args 0) (rd args 1)).isSome, laws_eqCmd_sh ((laws_eqCmd (rd args 0) (rd args 1)).getD default)) else none
theorem laws_eqCmd_s_ok : ∀ args r, laws_eqCmd_s args = some (true, r) → SumOk Try.prog tab 25 args r :=
  Base.sum (cfg := laws_eqCmd_c) (F := fun args => laws_eqCmd (rd args 0) (rd args 1)) (shr := laws_eqCmd_sh) base laws_eqCmd_c_ok Try.func25 (by kernel_rfl) (GoodAll.ok (l := []) GoodAll.nil rfl) [(.agg [(.int .i64), (.int .i64), (.int .i64), (.inl t_byte), (.inl t_byte), (.int .i64)]), (.agg [(.int .i64), (.int .i64), (.int .i64), (.inl t_byte), (.inl t_byte), (.int .i64)])] (by kernel_rfl) [[.dead]] [] (by kernel_rfl) fun args h => by
    have q := laws_eqCmd_e (rd args 0) (rd args 1)
    rw [show [(n_laws_Cmd (rd args 0)), (n_laws_Cmd (rd args 1))] = args from h] at q
    exact q
def laws_eqItem_c : Cfg := ⟨tab, sumsOf [(25, laws_eqCmd_s)], fun _ => false, fun f => (look [(25, [none, none])] f).getD [], false⟩
theorem laws_eqItem_c_ok : SumsOk Try.prog tab laws_eqItem_c.sums := sums_cons f25_en laws_eqCmd_s_ok (sums_nil)
def laws_eqItem_L : Loops := ⟨fun k => (look [] k).getD [], fun k => (look [] k).getD [], fun k => (look [] k).getD [], runL []⟩
def laws_eqItem_sh (r_ : Bool) : V × List V := ((V.bool r_), [])
theorem laws_eqItem_e (a : V) (b : V) : Agr (wkF [[.dead]] []) laws_eqItem_sh (laws_eqItem a b) (evalFn laws_eqItem_c laws_eqItem_L Try.f99 [(n_impl_Item a), (n_impl_Item b)]) := by
  have h : evalFn laws_eqItem_c laws_eqItem_L Try.f99 [(n_impl_Item a), (n_impl_Item b)] = (bif (!(decide ((gi a 0) = (gi b 0)))) then some ((V.bool false), []) else rcall (laws_eqCmd (V.agg [(V.int .i64 (gi a 1)), (V.int .i64 (gi a 2)), (V.int .i64 (gi a 3)), (V.inl t_byte (gl a 4)), (V.inl t_byte (gl a 5)), (V.int .i64 (gi a 6))]) (V.agg [(V.int .i64 (gi b 1)), (V.int .i64 (gi b 2)), (V.int .i64 (gi b 3)), (V.inl t_byte (gl b 4)), (V.inl t_byte (gl b 5)), (V.int .i64 (gi b 6))])) fun r72 => bif (!r72) then some ((V.bool false), []) else some ((V.bool true), [])) := by kernel_rfl
  rw [h, laws_eqItem]
  clear h
  repeat' (first | exact agr_none | refine agr_if ?_ ?_ | refine agr_call fun _ => ?_ | refine agr_let fun _ => ?_ | exact agr_leaf (by kernel_rfl))
def laws_eqItem_s (args : List V) : Option (Bool × (V × List V)) := bif argsOk [(.agg [(.int .i64), (.int .i64), (.int .i64), (.int .i64), (.inl t_byte), (.inl t_byte), (.int .i64)]), (.agg [(.int .i64), (.int .i64), (.int .i64), (.int .i64), (.inl t_byte), (.inl t_byte), (.int .i64)])] args then some ((laws_eqItem (rd args 0) (rd args 1)).isSome, laws_eqItem_sh ((laws_eqItem (rd args 0) (rd args 1)).getD default)) else none
theorem laws_eqItem_s_ok : ∀ args r, laws_eqItem_s args = some (true, r) → SumOk Try.prog tab 99 args r :=
  Base.sum (cfg := laws_eqItem_c) (F := fun args => laws_eqItem (rd args 0) (rd args 1)) (shr := laws_eqItem_sh) base laws_eqItem_c_ok Try.func99 (by kernel_rfl) (GoodAll.ok (l := []) GoodAll.nil rfl) [(.agg [(.int .i64), (.int .i64), (.int .i64), (.int .i64), (.inl t_byte), (.inl t_byte), (.int .i64)]), (.agg [(.int .i64), (.int .i64), (.int .i64), (.int .i64), (.inl t_byte), (.inl t_byte), (.int .i64)])] (by kernel_rfl) [[.dead]] [] (by kernel_rfl) fun args h => by
    have q := laws_eqItem_e (rd args 0) (rd args 1)
    rw [show [(n_impl_Item (rd args 0)), (n_impl_Item (rd args 1))] = args from h] at q
    exact q
def laws_eqItemS_c : Cfg := ⟨tab, sumsOf [(99, laws_eqItem_s)], fun _ => false, fun f => (look [(99, [none, none])] f).getD [], false⟩
theorem laws_eqItemS_c_ok : SumsOk Try.prog tab laws_eqItemS_c.sums := sums_cons f99_en laws_eqItem_s_ok (sums_nil)
def laws_eqItemS_l4_e : LE := ⟨4, ⟨[(0, (.one (.inl t_impl_Item))), (1, (.one (.inl t_impl_Item))), (5, (.one (.int .i64)))], [], 0, []⟩, fun st => Out.tst (laws_eqItemS_l4 ((((((sv st 0).L).length : Nat) : Int) - ((sv st 2).I)).toNat + 1) ((sv st 0).L) ((sv st 1).L) ((sv st 2).I)).isSome (brs ((fun r_ => r_.1) ((laws_eqItemS_l4 ((((((sv st 0).L).length : Nat) : Int) - ((sv st 2).I)).toNat + 1) ((sv st 0).L) ((sv st 1).L) ((sv st 2).I)).getD default)) 0 ((fun r_ => [(Ex.ret, (⟨[(4, (V.bool r_.2))], [], 0, []⟩ : St)), ((Ex.exit 0), (⟨[(4, V.dead)], [], 0, []⟩ : St))]) ((laws_eqItemS_l4 ((((((sv st 0).L).length : Nat) : Int) - ((sv st 2).I)).toNat + 1) ((sv st 0).L) ((sv st 1).L) ((sv st 2).I)).getD default)))⟩
def laws_eqItemS_L : Loops := ⟨fun k => (look [(4, [0, 1, 5])] k).getD [], fun k => (look [] k).getD [], fun k => (look [(4, [4])] k).getD [], runL [laws_eqItemS_l4_e]⟩
theorem laws_eqItemS_l4_ok (k_ : Nat) : ∀ (a0 : List V) (b1 : List V) (i5 : Int), Agr id (fun r_ => pick (r_.1) 0 [(Ex.ret, (⟨[(4, (V.bool r_.2))], [], 0, []⟩ : St)), ((Ex.exit 0), (⟨[(4, V.dead)], [], 0, []⟩ : St))]) (laws_eqItemS_l4 k_ a0 b1 i5) (rounds laws_eqItemS_c laws_eqItemS_L ((loopsIn (bodyOf Try.f48)).getD 0 .skip) k_ (⟨[(0, (V.inl t_impl_Item a0)), (1, (V.inl t_impl_Item b1)), (5, (V.int .i64 i5))], [], 0, []⟩ : St)) := by
  induction k_ with
  | zero => intros; exact agr_none
  | succ k_ ih =>
    intro a0 b1 i5
    have h : rounds laws_eqItemS_c laws_eqItemS_L ((loopsIn (bodyOf Try.f48)).getD 0 .skip) (k_ + 1) (⟨[(0, (V.inl t_impl_Item a0)), (1, (V.inl t_impl_Item b1)), (5, (V.int .i64 i5))], [], 0, []⟩ : St) = (bif (decide (i5 < ((a0.length : Nat) : Int))) then bif (idxOk i5 a0.length) then bif (idxOk i5 b1.length) then rcall (laws_eqItem (n_impl_Item (rd a0 i5.toNat)) (n_impl_Item (rd b1 i5.toNat))) fun r73 => bif (!r73) then some (Ex.ret, (⟨[(4, (V.bool false))], [], 0, []⟩ : St)) else rounds laws_eqItemS_c laws_eqItemS_L ((loopsIn (bodyOf Try.f48)).getD 0 .skip) k_ (⟨[(0, (V.inl t_impl_Item a0)), (1, (V.inl t_impl_Item b1)), (5, (V.int .i64 (IntKind.i64.wrap (i5 + 1))))], [], 0, []⟩ : St) else none else none else some ((Ex.exit 0), (⟨[(4, V.dead)], [], 0, []⟩ : St))) := by kernel_rfl
    rw [h, laws_eqItemS_l4]
    clear h
    repeat' (first | exact agr_none | refine agr_if ?_ ?_ | refine agr_call fun _ => ?_ | refine agr_let fun _ => ?_ | exact agr_leaf (by kernel_rfl) | exact ih _ _ _)
theorem laws_eqItemS_lo : LoopsOk laws_eqItemS_c laws_eqItemS_L (bodyOf Try.f48) := by
  refine GoodAll.ok (l := [laws_eqItemS_l4_e]) ?_ rfl
  refine GoodAll.cons 0 (by kernel_rfl) ?_ ?_
  · exact good_of (key := 4) (ss := ⟨[(0, (.one (.inl t_impl_Item))), (1, (.one (.inl t_impl_Item))), (5, (.one (.int .i64)))], [], 0, []⟩) (F := fun st => laws_eqItemS_l4 ((((((sv st 0).L).length : Nat) : Int) - ((sv st 2).I)).toNat + 1) ((sv st 0).L) ((sv st 1).L) ((sv st 2).I)) (ix := fun r_ => r_.1) (ps := fun r_ => [(Ex.ret, (⟨[(4, (V.bool r_.2))], [], 0, []⟩ : St)), ((Ex.exit 0), (⟨[(4, V.dead)], [], 0, []⟩ : St))]) (fun st => (((((sv st 0).L).length : Nat) : Int) - ((sv st 2).I)).toNat + 1) fun st h => by
      have q := laws_eqItemS_l4_ok ((((((sv st 0).L).length : Nat) : Int) - ((sv st 2).I)).toNat + 1) ((sv st 0).L) ((sv st 1).L) ((sv st 2).I)
      rw [show (⟨[(0, (V.inl t_impl_Item ((sv st 0).L))), (1, (V.inl t_impl_Item ((sv st 1).L))), (5, (V.int .i64 ((sv st 2).I)))], [], 0, []⟩ : St) = st from h] at q
      exact q
  exact GoodAll.nil
def laws_eqItemS_sh (r_ : Bool) : V × List V := ((V.bool r_), [])
theorem laws_eqItemS_e (a : List V) (b : List V) : Agr (wkF [[.dead]] []) laws_eqItemS_sh (laws_eqItemS a b) (evalFn laws_eqItemS_c laws_eqItemS_L Try.f48 [(V.inl t_impl_Item a), (V.inl t_impl_Item b)]) := by
  have h : evalFn laws_eqItemS_c laws_eqItemS_L Try.f48 [(V.inl t_impl_Item a), (V.inl t_impl_Item b)] = (bif (!(decide (((a.length : Nat) : Int) = ((b.length : Nat) : Int)))) then some ((V.bool false), []) else rcall (laws_eqItemS_l4 ((((a.length : Nat) : Int) - 0).toNat + 1) a b 0) fun r74 => bif (Nat.beq r74.1 0) then some ((V.bool r74.2), []) else some ((V.bool true), [])) := by kernel_rfl
  rw [h, laws_eqItemS]
  clear h
  repeat' (first | exact agr_none | refine agr_if ?_ ?_ | refine agr_call fun _ => ?_ | refine agr_let fun _ => ?_ | exact agr_leaf (by kernel_rfl))
def laws_eqItemS_s (args : List V) : Option (Bool × (V × List V)) := bif argsOk [(.one (.inl t_impl_Item)), (.one (.inl t_impl_Item))] args then some ((laws_eqItemS ((rd args 0).L) ((rd args 1).L)).isSome, laws_eqItemS_sh ((laws_eqItemS ((rd args 0).L) ((rd args 1).L)).getD default)) else none
theorem laws_eqItemS_s_ok : ∀ args r, laws_eqItemS_s args = some (true, r) → SumOk Try.prog tab 48 args r :=
  Base.sum (cfg := laws_eqItemS_c) (F := fun args => laws_eqItemS ((rd args 0).L) ((rd args 1).L)) (shr := laws_eqItemS_sh) base laws_eqItemS_c_ok Try.func48 (by kernel_rfl) laws_eqItemS_lo [(.one (.inl t_impl_Item)), (.one (.inl t_impl_Item))] (by kernel_rfl) [[.dead]] [] (by kernel_rfl) fun args h => by
    have q := laws_eqItemS_e ((rd args 0).L) ((rd args 1).L)
    rw [show [(V.inl t_impl_Item ((rd args 0).L)), (V.inl t_impl_Item ((rd args 1).L))] = args from h] at q
    exact q
def laws_eqBoolS_c : Cfg := ⟨tab, sumsOf [], fun _ => false, fun f => (look [] f).getD [], false⟩
theorem laws_eqBoolS_c_ok : SumsOk Try.prog tab laws_eqBoolS_c.sums := sums_nil
def laws_eqBoolS_l4_e : LE := ⟨4, ⟨[(0, (.one (.inl t_bool))), (1, (.one (.inl t_bool))), (5, (.one (.int .i64)))], [], 0, []⟩, fun st => Out.tst (laws_eqBoolS_l4 ((((((sv st 0).L).length : Nat) : Int) - ((sv st 2).I)).toNat + 1) ((sv st 0).L) ((sv st 1).L) ((sv st 2).I)).isSome (brs ((fun r_ => r_.1) ((laws_eqBoolS_l4 ((((((sv st 0).L).length : Nat) : Int) - ((sv st 2).I)).toNat + 1) ((sv st 0).L) ((sv st 1).L) ((sv st 2).I)).getD default)) 0 ((fun r_ => [(Ex.ret, (⟨[(4, (V.bool r_.2))], [], 0, []⟩ : St)), ((Ex.exit 0), (⟨[(4, V.dead)], [], 0, []⟩ : St))]) ((laws_eqBoolS_l4 ((((((sv st 0).L).length : Nat) : Int) - ((sv st 2).I)).toNat + 1) ((sv st 0).L) ((sv st 1).L) ((sv st 2).I)).getD default)))⟩
def laws_eqBoolS_L : Loops := ⟨fun k => (look [(4, [0, 1, 5])] k).getD [], fun k => (look [] k).getD [], fun k => (look [(4, [4])] k).getD [], runL [laws_eqBoolS_l4_e]⟩
theorem laws_eqBoolS_l4_ok (k_ : Nat) : ∀ (a0 : List V) (b1 : List V) (i5 : Int), Agr id (fun r_ => pick (r_.1) 0 [(Ex.ret, (⟨[(4, (V.bool r_.2))], [], 0, []⟩ : St)), ((Ex.exit 0), (⟨[(4, V.dead)], [], 0, []⟩ : St))]) (laws_eqBoolS_l4 k_ a0 b1 i5) (rounds laws_eqBoolS_c laws_eqBoolS_L ((loopsIn (bodyOf Try.f49)).getD 0 .skip) k_ (⟨[(0, (V.inl t_bool a0)), (1, (V.inl t_bool b1)), (5, (V.int .i64 i5))], [], 0, []⟩ : St)) := by
  induction k_ with
  | zero => intros; exact agr_none
  | succ k_ ih =>
    intro a0 b1 i5
    have h : rounds laws_eqBoolS_c laws_eqBoolS_L ((loopsIn (bodyOf Try.f49)).getD 0 .skip) (k_ + 1) (⟨[(0, (V.inl t_bool a0)), (1, (V.inl t_bool b1)), (5, (V.int .i64 i5))], [], 0, []⟩ : St) = (bif (decide (i5 < ((a0.length : Nat) : Int))) then bif (idxOk i5 a0.length) then bif (idxOk i5 b1.length) then bif (!((gb (rd a0 i5.toNat) 0) == (gb (rd b1 i5.toNat) 0))) then some (Ex.ret, (⟨[(4, (V.bool false))], [], 0, []⟩ : St)) else rounds laws_eqBoolS_c laws_eqBoolS_L ((loopsIn (bodyOf Try.f49)).getD 0 .skip) k_ (⟨[(0, (V.inl t_bool a0)), (1, (V.inl t_bool b1)), (5, (V.int .i64 (IntKind.i64.wrap (i5 + 1))))], [], 0, []⟩ : St) else none else none else some ((Ex.exit 0), (⟨[(4, V.dead)], [], 0, []⟩ : St))) := by kernel_rfl
    rw [h, laws_eqBoolS_l4]
    clear h
    repeat' (first | exact agr_none | refine agr_if ?_ ?_ | refine agr_call fun _ => ?_ | refine agr_let fun _ => ?_ | exact agr_leaf (by kernel_rfl) | exact ih _ _ _)
theorem laws_eqBoolS_lo : LoopsOk laws_eqBoolS_c laws_eqBoolS_L (bodyOf Try.f49) := by
  refine GoodAll.ok (l := [laws_eqBoolS_l4_e]) ?_ rfl
  refine GoodAll.cons 0 (by kernel_rfl) ?_ ?_
  · exact good_of (key := 4) (ss := ⟨[(0, (.one (.inl t_bool))), (1, (.one (.inl t_bool))), (5, (.one (.int .i64)))], [], 0, []⟩) (F := fun st => laws_eqBoolS_l4 ((((((sv st 0).L).length : Nat) : Int) - ((sv st 2).I)).toNat + 1) ((sv st 0).L) ((sv st 1).L) ((sv st 2).I)) (ix := fun r_ => r_.1) (ps := fun r_ => [(Ex.ret, (⟨[(4, (V.bool r_.2))], [], 0, []⟩ : St)), ((Ex.exit 0), (⟨[(4, V.dead)], [], 0, []⟩ : St))]) (fun st => (((((sv st 0).L).length : Nat) : Int) - ((sv st 2).I)).toNat + 1) fun st h => by
      have q := laws_eqBoolS_l4_ok ((((((sv st 0).L).length : Nat) : Int) - ((sv st 2).I)).toNat + 1) ((sv st 0).L) ((sv st 1).L) ((sv st 2).I)
      rw [show (⟨[(0, (V.inl t_bool ((sv st 0).L))), (1, (V.inl t_bool ((sv st 1).L))), (5, (V.int .i64 ((sv st 2).I)))], [], 0, []⟩ : St) = st from h] at q
      exact q
  exact GoodAll.nil
def laws_eqBoolS_sh (r_ : Bool) : V × List V := ((V.bool r_), [])
theorem laws_eqBoolS_e (a : List V) (b : List V) : Agr (wkF [[.dead]] []) laws_eqBoolS_sh (laws_eqBoolS a b) (evalFn laws_eqBoolS_c laws_eqBoolS_L Try.f49 [(V.inl t_bool a), (V.inl t_bool b)]) := by
  have h : evalFn laws_eqBoolS_c laws_eqBoolS_L Try.f49 [(V.inl t_bool a), (V.inl t_bool b)] = (bif (!(decide (((a.length : Nat) : Int) = ((b.length : Nat) : Int)))) then some ((V.bool false), []) else rcall (laws_eqBoolS_l4 ((((a.length : Nat) : Int) - 0).toNat + 1) a b 0) fun r76 => bif (Nat.beq r76.1 0) then some ((V.bool r76.2), []) else some ((V.bool true), [])) := by kernel_rfl
  rw [h, laws_eqBoolS]
  clear h
  repeat' (first | exact agr_none | refine agr_if ?_ ?_ | refine agr_call fun _ => ?_ | refine agr_let fun _ => ?_ | exact agr_leaf (by kernel_rfl))
def laws_eqBoolS_s (args : List V) : Option (Bool × (V × List V)) := bif argsOk [(.one (.inl t_bool)), (.one (.inl t_bool))] args then some ((laws_eqBoolS ((rd args 0).L) ((rd args 1).L)).isSome, laws_eqBoolS_sh ((laws_eqBoolS ((rd args 0).L) ((rd args 1).L)).getD default)) else none
theorem laws_eqBoolS_s_ok : ∀ args r, laws_eqBoolS_s args = some (true, r) → SumOk Try.prog tab 49 args r :=
  Base.sum (cfg := laws_eqBoolS_c) (F := fun args => laws_eqBoolS ((rd args 0).L) ((rd args 1).L)) (shr := laws_eqBoolS_sh) base laws_eqBoolS_c_ok Try.func49 (by kernel_rfl) laws_eqBoolS_lo [(.one (.inl t_bool)), (.one (.inl t_bool))] (by kernel_rfl) [[.dead]] [] (by kernel_rfl) fun args h => by
    have q := laws_eqBoolS_e ((rd args 0).L) ((rd args 1).L)
    rw [show [(V.inl t_bool ((rd args 0).L)), (V.inl t_bool ((rd args 1).L))] = args from h] at q
    exact q
def laws_eqIntS_c : Cfg := ⟨tab, sumsOf [], fun _ => false, fun f => (look [] f).getD [], false⟩
theorem laws_eqIntS_c_ok : SumsOk Try.prog tab laws_eqIntS_c.sums := sums_nil
def laws_eqIntS_l4_e : LE := ⟨4, ⟨[(0, (.one (.inl t_int'))), (1, (.one (.inl t_int'))), (5, (.one (.int .i64)))], [], 0, []⟩, fun st => Out.tst (laws_eqIntS_l4 ((((((sv st 0).L).length : Nat) : Int) - ((sv st 2).I)).toNat + 1) ((sv st 0).L) ((sv st 1).L) ((sv st 2).I)).isSome (brs ((fun r_ => r_.1) ((laws_eqIntS_l4 ((((((sv st 0).L).length : Nat) : Int) - ((sv st 2).I)).toNat + 1) ((sv st 0).L) ((sv st 1).L) ((sv st 2).I)).getD default)) 0 ((fun r_ => [(Ex.ret, (⟨[(4, (V.bool r_.2))], [], 0, []⟩ : St)), ((Ex.exit 0), (⟨[(4, V.dead)], [], 0, []⟩ : St))]) ((laws_eqIntS_l4 ((((((sv st 0).L).length : Nat) : Int) - ((sv st 2).I)).toNat + 1) ((sv st 0).L) ((sv st 1).L) ((sv st 2).I)).getD default)))⟩
def laws_eqIntS_L : Loops := ⟨fun k => (look [(4, [0, 1, 5])] k).getD [], fun k => (look [] k).getD [], fun k => (look [(4, [4])] k).getD [], runL [laws_eqIntS_l4_e]⟩
theorem laws_eqIntS_l4_ok (k_ : Nat) : ∀ (a0 : List V) (b1 : List V) (i5 : Int), Agr id (fun r_ => pick (r_.1) 0 [(Ex.ret, (⟨[(4, (V.bool r_.2))], [], 0, []⟩ : St)), ((Ex.exit 0), (⟨[(4, V.dead)], [], 0, []⟩ : St))]) (laws_eqIntS_l4 k_ a0 b1 i5) (rounds laws_eqIntS_c laws_eqIntS_L ((loopsIn (bodyOf Try.f50)).getD 0 .skip) k_ (⟨[(0, (V.inl t_int' a0)), (1, (V.inl t_int' b1)), (5, (V.int .i64 i5))], [], 0, []⟩ : St)) := by
  induction k_ with
  | zero => intros; exact agr_none
  | succ k_ ih =>
    intro a0 b1 i5
    have h : rounds laws_eqIntS_c laws_eqIntS_L ((loopsIn (bodyOf Try.f50)).getD 0 .skip) (k_ + 1) (⟨[(0, (V.inl t_int' a0)), (1, (V.inl t_int' b1)), (5, (V.int .i64 i5))], [], 0, []⟩ : St) = (bif (decide (i5 < ((a0.length : Nat) : Int))) then bif (idxOk i5 a0.length) then bif (idxOk i5 b1.length) then bif (!(decide ((gi (rd a0 i5.toNat) 0) = (gi (rd b1 i5.toNat) 0)))) then some (Ex.ret, (⟨[(4, (V.bool false))], [], 0, []⟩ : St)) else rounds laws_eqIntS_c laws_eqIntS_L ((loopsIn (bodyOf Try.f50)).getD 0 .skip) k_ (⟨[(0, (V.inl t_int' a0)), (1, (V.inl t_int' b1)), (5, (V.int .i64 (IntKind.i64.wrap (i5 + 1))))], [], 0, []⟩ : St) else none else none else some ((Ex.exit 0), (⟨[(4, V.dead)], [], 0, []⟩ : St))) := by kernel_rfl
    rw [h, laws_eqIntS_l4]
    clear h
    repeat' (first | exact agr_none | refine agr_if ?_ ?_ | refine agr_call fun _ => ?_ | refine agr_let fun _ => ?_ | exact agr_leaf (by kernel_rfl) | exact ih _ _ _)
theorem laws_eqIntS_lo : LoopsOk laws_eqIntS_c laws_eqIntS_L (bodyOf Try.f50) := by
  refine GoodAll.ok (l := [laws_eqIntS_l4_e]) ?_ rfl
  refine GoodAll.cons 0 (by kernel_rfl) ?_ ?_
  · exact good_of (key := 4) (ss := ⟨[(0, (.one (.inl t_int'))), (1, (.one (.inl t_int'))), (5, (.one (.int .i64)))], [], 0, []⟩) (F := fun st => laws_eqIntS_l4 ((((((sv st 0).L).length : Nat) : Int) - ((sv st 2).I)).toNat + 1) ((sv st 0).L) ((sv st 1).L) ((sv st 2).I)) (ix := fun r_ => r_.1) (ps := fun r_ => [(Ex.ret, (⟨[(4, (V.bool r_.2))], [], 0, []⟩ : St)), ((Ex.exit 0), (⟨[(4, V.dead)], [], 0, []⟩ : St))]) (fun st => (((((sv st 0).L).length : Nat) : Int) - ((sv st 2).I)).toNat + 1) fun st h => by
      have q := laws_eqIntS_l4_ok ((((((sv st 0).L).length : Nat) : Int) - ((sv st 2).I)).toNat + 1) ((sv st 0).L) ((sv st 1).L) ((sv st 2).I)
      rw [show (⟨[(0, (V.inl t_int' ((sv st 0).L))), (1, (V.inl t_int' ((sv st 1).L))), (5, (V.int .i64 ((sv st 2).I)))], [], 0, []⟩ : St) = st from h] at q
      exact q
  exact GoodAll.nil
def laws_eqIntS_sh (r_ : Bool) : V × List V := ((V.bool r_), [])
theorem laws_eqIntS_e (a : List V) (b : List V) : Agr (wkF [[.dead]] []) laws_eqIntS_sh (laws_eqIntS a b) (evalFn laws_eqIntS_c laws_eqIntS_L Try.f50 [(V.inl t_int' a), (V.inl t_int' b)]) := by
  have h : evalFn laws_eqIntS_c laws_eqIntS_L Try.f50 [(V.inl t_int' a), (V.inl t_int' b)] = (bif (!(decide (((a.length : Nat) : Int) = ((b.length : Nat) : Int)))) then some ((V.bool false), []) else rcall (laws_eqIntS_l4 ((((a.length : Nat) : Int) - 0).toNat + 1) a b 0) fun r78 => bif (Nat.beq r78.1 0) then some ((V.bool r78.2), []) else some ((V.bool true), [])) := by kernel_rfl
  rw [h, laws_eqIntS]
  clear h
  repeat' (first | exact agr_none | refine agr_if ?_ ?_ | refine agr_call fun _ => ?_ | refine agr_let fun _ => ?_ | exact agr_leaf (by kernel_rfl))
def laws_eqIntS_s (args : List V) : Option (Bool × (V × List V)) := bif argsOk [(.one (.inl t_int')), (.one (.inl t_int'))] args then some ((laws_eqIntS ((rd args 0).L) ((rd args 1).L)).isSome, laws_eqIntS_sh ((laws_eqIntS ((rd args 0).L) ((rd args 1).L)).getD default)) else none
theorem laws_eqIntS_s_ok : ∀ args r, laws_eqIntS_s args = some (true, r) → SumOk Try.prog tab 50 args r :=
  Base.sum (cfg := laws_eqIntS_c) (F := fun args => laws_eqIntS ((rd args 0).L) ((rd args 1).L)) (shr := laws_eqIntS_sh) base laws_eqIntS_c_ok Try.func50 (by kernel_rfl) laws_eqIntS_lo [(.one (.inl t_int')), (.one (.inl t_int'))] (by kernel_rfl) [[.dead]] [] (by kernel_rfl) fun args h => by
    have q := laws_eqIntS_e ((rd args 0).L) ((rd args 1).L)
    rw [show [(V.inl t_int' ((rd args 0).L)), (V.inl t_int' ((rd args 1).L))] = args from h] at q
    exact q
def laws_eqNode_c : Cfg := ⟨tab, sumsOf [(48, laws_eqItemS_s), (49, laws_eqBoolS_s), (50, laws_eqIntS_s)], fun _ => false, fun f => (look [(48, [some t_impl_Item, some t_impl_Item]), (49, [some t_bool, some t_bool]), (50, [some t_int', some t_int'])] f).getD [], false⟩
theorem laws_eqNode_c_ok : SumsOk Try.prog tab laws_eqNode_c.sums := sums_cons f48_en laws_eqItemS_s_ok (sums_cons f49_en laws_eqBoolS_s_ok (sums_cons f50_en laws_eqIntS_s_ok (sums_nil)))
def laws_eqNode_L : Loops := ⟨fun k => (look [] k).getD [], fun k => (look [] k).getD [], fun k => (look [] k).getD [], runL []⟩
def laws_eqNode_sh (r_ : Bool) : V × List V := ((V.bool r_), [])
set_option maxRecDepth 100000 in
theorem laws_eqNode_e (a : V) (b : V) : Agr (wkF [[.dead]] []) laws_eqNode_sh (laws_eqNode a b) (evalFn laws_eqNode_c laws_eqNode_L Try.f12 [(n_impl_Node a), (n_impl_Node b)]) := by
  have h : evalFn laws_eqNode_c laws_eqNode_L Try.f12 [(n_impl_Node a), (n_impl_Node b)] = (bif (!(decide ((gi a 0) = (gi b 0)))) then some ((V.bool false), []) else bif (!(decide ((gi a 1) = (gi b 1)))) then some ((V.bool false), []) else bif (!(decide ((gi a 2) = (gi b 2)))) then some ((V.bool false), []) else rcall (laws_eqItemS (gl a 3) (gl b 3)) fun r75 => bif (!r75) then some ((V.bool false), []) else bif (!(decide ((gi a 4) = (gi b 4)))) then some ((V.bool false), []) else bif (!(decide ((gi a 5) = (gi b 5)))) then some ((V.bool false), []) else bif (!(decide ((gi a 6) = (gi b 6)))) then some ((V.bool false), []) else bif (!(decide ((gi a 7) = (gi b 7)))) then some ((V.bool false), []) else rcall (laws_eqBoolS (gl a 8) (gl b 8)) fun r77 => bif (!r77) then some ((V.bool false), []) else rcall (laws_eqIntS (gl a 9) (gl b 9)) fun r79 => bif (!r79) then some ((V.bool false), []) else rcall (laws_eqIntS (gl a 10) (gl b 10)) fun r80 => bif (!r80) then some ((V.bool false), []) else some ((V.bool true), [])) := by kernel_rfl
  rw [h, laws_eqNode]
  clear h
  repeat' (first | exact agr_none | refine agr_if ?_ ?_ | refine agr_call fun _ => ?_ | refine agr_let fun _ => ?_ | exact agr_leaf (by kernel_rfl))
def laws_eqNode_s (args : List V) : Option (Bool × (V × List V)) := bif argsOk [(.agg [(.int .i64), (.int .i64), (.int .i64), (.inl t_impl_Item), (.int .i64), (.int .i64), (.int .i64), (.int .i64), (.inl t_bool), (.inl t_int'), (.inl t_int')]), (.agg [(.int .i64), (.int .i64), (.int .i64), (.inl t_impl_Item), (.int .i64), (.int .i64), (.int .i64), (.int .i64), (.inl t_bool), (.inl t_int'), (.inl t_int')])] args then some ((laws_eqNode (rd args 0) (rd args 1)).isSome, laws_eqNode_sh ((laws_eqNode (rd args 0) (rd args 1)).getD default)) else none
theorem laws_eqNode_s_ok : ∀ args r, laws_eqNode_s args = some (true, r) → SumOk Try.prog tab 12 args r :=
  Base.sum (cfg := laws_eqNode_c) (F := fun args => laws_eqNode (rd args 0) (rd args 1)) (shr := laws_eqNode_sh) base laws_eqNode_c_ok Try.func12 (by kernel_rfl) (GoodAll.ok (l := []) GoodAll.nil rfl) [(.agg [(.int .i64), (.int .i64), (.int .i64), (.inl t_impl_Item), (.int .i64), (.int .i64), (.int .i64), (.int .i64), (.inl t_bool), (.inl t_int'), (.inl t_int')]), (.agg [(.int .i64), (.int .i64), (.int .i64), (.inl t_impl_Item), (.int .i64), (.int .i64), (.int .i64), (.int .i64), (.inl t_bool), (.inl t_int'), (.inl t_int')])] (by kernel_rfl) [[.dead]] [] (by kernel_rfl) fun args h => by
    have q := laws_eqNode_e (rd args 0) (rd args 1)
    rw [show [(n_impl_Node (rd args 0)), (n_impl_Node (rd args 1))] = args from h] at q
    exact q
def laws_markByteS_c : Cfg := ⟨tab, sumsOf [], fun _ => false, fun f => (look [] f).getD [], false⟩
theorem laws_markByteS_c_ok : SumsOk Try.prog tab laws_markByteS_c.sums := sums_nil
def laws_markByteS_l2_e : LE := ⟨2, ⟨[(0, (.one (.sl 0 t_byte))), (1, (.one (.int .i64))), (5, (.one (.int .i64)))], [(.drow t_byte)], 1, [0]⟩, fun st => Out.tst (laws_markByteS_l2 (((((br st 0).length : Nat) : Int) - ((sv st 2).I)).toNat + 1) ((sv st 1).I) ((sv st 2).I) (br st 0)).isSome (brs ((fun r_ => 0) ((laws_markByteS_l2 (((((br st 0).length : Nat) : Int) - ((sv st 2).I)).toNat + 1) ((sv st 1).I) ((sv st 2).I) (br st 0)).getD default)) 0 ((fun r_ => [((Ex.exit 0), (⟨[(1, (V.int .i64 r_.1))], [(0, some (Blk.drow t_byte r_.2))], 1, [0]⟩ : St))]) ((laws_markByteS_l2 (((((br st 0).length : Nat) : Int) - ((sv st 2).I)).toNat + 1) ((sv st 1).I) ((sv st 2).I) (br st 0)).getD default)))⟩
def laws_markByteS_L : Loops := ⟨fun k => (look [(2, [0, 1, 5])] k).getD [], fun k => (look [] k).getD [], fun k => (look [(2, [1])] k).getD [], runL [laws_markByteS_l2_e]⟩
theorem laws_markByteS_l2_ok (k_ : Nat) : ∀ (k1 : Int) (i5 : Int) (r0 : List V), Agr id (fun r_ => pick (0) 0 [((Ex.exit 0), (⟨[(1, (V.int .i64 r_.1))], [(0, some (Blk.drow t_byte r_.2))], 1, [0]⟩ : St))]) (laws_markByteS_l2 k_ k1 i5 r0) (rounds laws_markByteS_c laws_markByteS_L ((loopsIn (bodyOf Try.f100)).getD 0 .skip) k_ (⟨[(0, (V.sl 0 t_byte 0 none)), (1, (V.int .i64 k1)), (5, (V.int .i64 i5))], [(0, some (Blk.drow t_byte r0))], 1, [0]⟩ : St)) := by
  induction k_ with
  | zero => intros; exact agr_none
  | succ k_ ih =>
    intro k1 i5 r0
    have h : rounds laws_markByteS_c laws_markByteS_L ((loopsIn (bodyOf Try.f100)).getD 0 .skip) (k_ + 1) (⟨[(0, (V.sl 0 t_byte 0 none)), (1, (V.int .i64 k1)), (5, (V.int .i64 i5))], [(0, some (Blk.drow t_byte r0))], 1, [0]⟩ : St) = (bif (decide (i5 < ((r0.length : Nat) : Int))) then bif (idxOk i5 r0.length) then rounds laws_markByteS_c laws_markByteS_L ((loopsIn (bodyOf Try.f100)).getD 0 .skip) k_ (⟨[(0, (V.sl 0 t_byte 0 none)), (1, (V.int .i64 (IntKind.i64.wrap (k1 + 1)))), (5, (V.int .i64 (IntKind.i64.wrap (i5 + 1))))], [(0, some (Blk.drow t_byte (r0.set (0 + i5.toNat) (V.int .u8 (IntKind.u8.wrap k1)))))], 1, [0]⟩ : St) else none else some ((Ex.exit 0), (⟨[(1, (V.int .i64 k1))], [(0, some (Blk.drow t_byte r0))], 1, [0]⟩ : St))) := by kernel_rfl
    rw [h, laws_markByteS_l2]
    clear h
    repeat' (first | exact agr_none | refine agr_if ?_ ?_ | refine agr_call fun _ => ?_ | refine agr_let fun _ => ?_ | exact agr_leaf (by kernel_rfl) | exact ih _ _ _)
theorem laws_markByteS_lo : LoopsOk laws_markByteS_c laws_markByteS_L (bodyOf Try.f100) := by
  refine GoodAll.ok (l := [laws_markByteS_l2_e]) ?_ rfl
  refine GoodAll.cons 0 (by kernel_rfl) ?_ ?_
  · exact good_of (key := 2) (ss := ⟨[(0, (.one (.sl 0 t_byte))), (1, (.one (.int .i64))), (5, (.one (.int .i64)))], [(.drow t_byte)], 1, [0]⟩) (F := fun st => laws_markByteS_l2 (((((br st 0).length : Nat) : Int) - ((sv st 2).I)).toNat + 1) ((sv st 1).I) ((sv st 2).I) (br st 0)) (ix := fun r_ => 0) (ps := fun r_ => [((Ex.exit 0), (⟨[(1, (V.int .i64 r_.1))], [(0, some (Blk.drow t_byte r_.2))], 1, [0]⟩ : St))]) (fun st => ((((br st 0).length : Nat) : Int) - ((sv st 2).I)).toNat + 1) fun st h => by
      have q := laws_markByteS_l2_ok (((((br st 0).length : Nat) : Int) - ((sv st 2).I)).toNat + 1) ((sv st 1).I) ((sv st 2).I) (br st 0)
      rw [show (⟨[(0, (V.sl 0 t_byte 0 none)), (1, (V.int .i64 ((sv st 1).I))), (5, (V.int .i64 ((sv st 2).I)))], [(0, some (Blk.drow t_byte (br st 0)))], 1, [0]⟩ : St) = st from h] at q
      exact q
  exact GoodAll.nil
def laws_markByteS_sh (r_ : Int × List V) : V × List V := ((V.int .i64 r_.1), [(V.dr t_byte r_.2)])
theorem laws_markByteS_e (a : List V) (k : Int) : Agr (wkF [[.dead]] [[(.dr t_byte)]]) laws_markByteS_sh (laws_markByteS a k) (evalFn laws_markByteS_c laws_markByteS_L Try.f100 [(V.dr t_byte a), (V.int .i64 k)]) := by
  have h : evalFn laws_markByteS_c laws_markByteS_L Try.f100 [(V.dr t_byte a), (V.int .i64 k)] = (rcall (laws_markByteS_l2 ((((a.length : Nat) : Int) - 0).toNat + 1) k 0 a) fun r88 => some ((V.int .i64 r88.1), [(V.dr t_byte r88.2)])) := by kernel_rfl
  rw [h, laws_markByteS]
  clear h
  repeat' (first | exact agr_none | refine agr_if ?_ ?_ | refine agr_call fun _ => ?_ | refine agr_let fun _ => ?_ | exact agr_leaf (by kernel_rfl))
def laws_markByteS_s (args : List V) : Option (Bool × (V × List V)) := bif argsOk [(.one (.dr t_byte)), (.one (.int .i64))] args then some ((laws_markByteS ((rd args 0).L) ((rd args 1).I)).isSome, laws_markByteS_sh ((laws_markByteS ((rd args 0).L) ((rd args 1).I)).getD default)) else none
theorem laws_markByteS_s_ok : ∀ args r, laws_markByteS_s args = some (true, r) → SumOk Try.prog tab 100 args r :=
  Base.sum (cfg := laws_markByteS_c) (F := fun args => laws_markByteS ((rd args 0).L) ((rd args 1).I)) (shr := laws_markByteS_sh) base laws_markByteS_c_ok Try.func100 (by kernel_rfl) laws_markByteS_lo [(.one (.dr t_byte)), (.one (.int .i64))] (by kernel_rfl) [[.dead]] [[(.dr t_byte)]] (by kernel_rfl) fun args h => by
    have q := laws_markByteS_e ((rd args 0).L) ((rd args 1).I)
    rw [show [(V.dr t_byte ((rd args 0).L)), (V.int .i64 ((rd args 1).I))] = args from h] at q
    exact q
def laws_markItemS_c : Cfg := ⟨tab, sumsOf [(100, laws_markByteS_s)], fun f => Nat.beq f 100, fun f => (look [(100, [some t_byte, none])] f).getD [], false⟩
theorem laws_markItemS_c_ok : SumsOk Try.prog tab laws_markItemS_c.sums := sums_cons f100_en laws_markByteS_s_ok (sums_nil)
def laws_markItemS_l2_e : LE := ⟨2, ⟨[(0, (.one (.sl 0 t_impl_Item))), (1, (.one (.int .i64))), (5, (.one (.int .i64)))], [(.drow t_impl_Item)], 1, [0]⟩, fun st => Out.tst (laws_markItemS_l2 (((((br st 0).length : Nat) : Int) - ((sv st 2).I)).toNat + 1) ((sv st 1).I) ((sv st 2).I) (br st 0)).isSome (brs ((fun r_ => 0) ((laws_markItemS_l2 (((((br st 0).length : Nat) : Int) - ((sv st 2).I)).toNat + 1) ((sv st 1).I) ((sv st 2).I) (br st 0)).getD default)) 0 ((fun r_ => [((Ex.exit 0), (⟨[(1, (V.int .i64 r_.1))], [(0, some (Blk.drow t_impl_Item r_.2))], 1, [0]⟩ : St))]) ((laws_markItemS_l2 (((((br st 0).length : Nat) : Int) - ((sv st 2).I)).toNat + 1) ((sv st 1).I) ((sv st 2).I) (br st 0)).getD default)))⟩
def laws_markItemS_L : Loops := ⟨fun k => (look [(2, [0, 1, 5])] k).getD [], fun k => (look [] k).getD [], fun k => (look [(2, [1])] k).getD [], runL [laws_markItemS_l2_e]⟩
set_option maxRecDepth 100000 in
theorem laws_markItemS_l2_ok (k_ : Nat) : ∀ (k1 : Int) (i5 : Int) (r0 : List V), Agr id (fun r_ => pick (0) 0 [((Ex.exit 0), (⟨[(1, (V.int .i64 r_.1))], [(0, some (Blk.drow t_impl_Item r_.2))], 1, [0]⟩ : St))]) (laws_markItemS_l2 k_ k1 i5 r0) (rounds laws_markItemS_c laws_markItemS_L ((loopsIn (bodyOf Try.f51)).getD 0 .skip) k_ (⟨[(0, (V.sl 0 t_impl_Item 0 none)), (1, (V.int .i64 k1)), (5, (V.int .i64 i5))], [(0, some (Blk.drow t_impl_Item r0))], 1, [0]⟩ : St)) := by
  induction k_ with
  | zero => intros; exact agr_none
  | succ k_ ih =>
    intro k1 i5 r0
    have h : rounds laws_markItemS_c laws_markItemS_L ((loopsIn (bodyOf Try.f51)).getD 0 .skip) (k_ + 1) (⟨[(0, (V.sl 0 t_impl_Item 0 none)), (1, (V.int .i64 k1)), (5, (V.int .i64 i5))], [(0, some (Blk.drow t_impl_Item r0))], 1, [0]⟩ : St) = (bif (decide (i5 < ((r0.length : Nat) : Int))) then bif (idxOk i5 r0.length) then rlet ((r0.set (0 + i5.toNat) (V.agg [(V.int .i64 k1), (V.int .i64 (gi (rd r0 (0 + i5.toNat)) 1)), (V.int .i64 (gi (rd r0 (0 + i5.toNat)) 2)), (V.int .i64 (gi (rd r0 (0 + i5.toNat)) 3)), (V.inl t_byte (gl (rd r0 (0 + i5.toNat)) 4)), (V.inl t_byte (gl (rd r0 (0 + i5.toNat)) 5)), (V.int .i64 (gi (rd r0 (0 + i5.toNat)) 6))]))) fun u84 => bif (idxOk i5 u84.length) then rlet ((u84.set (0 + i5.toNat) (V.agg [(V.int .i64 (gi (rd u84 (0 + i5.toNat)) 0)), (V.int .i64 (IntKind.i64.wrap (k1 + 1))), (V.int .i64 (gi (rd u84 (0 + i5.toNat)) 2)), (V.int .i64 (gi (rd u84 (0 + i5.toNat)) 3)), (V.inl t_byte (gl (rd u84 (0 + i5.toNat)) 4)), (V.inl t_byte (gl (rd u84 (0 + i5.toNat)) 5)), (V.int .i64 (gi (rd u84 (0 + i5.toNat)) 6))]))) fun u85 => bif (idxOk i5 u85.length) then rlet ((u85.set (0 + i5.toNat) (V.agg [(V.int .i64 (gi (rd u85 (0 + i5.toNat)) 0)), (V.int .i64 (gi (rd u85 (0 + i5.toNat)) 1)), (V.int .i64 (IntKind.i64.wrap ((IntKind.i64.wrap (k1 + 1)) + 1))), (V.int .i64 (gi (rd u85 (0 + i5.toNat)) 3)), (V.inl t_byte (gl (rd u85 (0 + i5.toNat)) 4)), (V.inl t_byte (gl (rd u85 (0 + i5.toNat)) 5)), (V.int .i64 (gi (rd u85 (0 + i5.toNat)) 6))]))) fun u86 => bif (idxOk i5 u86.length) then rlet ((u86.set (0 + i5.toNat) (V.agg [(V.int .i64 (gi (rd u86 (0 + i5.toNat)) 0)), (V.int .i64 (gi (rd u86 (0 + i5.toNat)) 1)), (V.int .i64 (gi (rd u86 (0 + i5.toNat)) 2)), (V.int .i64 (IntKind.i64.wrap ((IntKind.i64.wrap ((IntKind.i64.wrap (k1 + 1)) + 1)) + 1))), (V.inl t_byte (gl (rd u86 (0 + i5.toNat)) 4)), (V.inl t_byte (gl (rd u86 (0 + i5.toNat)) 5)), (V.int .i64 (gi (rd u86 (0 + i5.toNat)) 6))]))) fun u87 => bif (idxOk i5 u87.length) then rcall (laws_markByteS (gl (rd u87 (0 + i5.toNat)) 4) (IntKind.i64.wrap ((IntKind.i64.wrap ((IntKind.i64.wrap ((IntKind.i64.wrap (k1 + 1)) + 1)) + 1)) + 1))) fun r89 => bif (idxOk i5 u87.length) then rlet ((u87.set (0 + i5.toNat) (V.agg [(V.int .i64 (gi (rd u87 (0 + i5.toNat)) 0)), (V.int .i64 (gi (rd u87 (0 + i5.toNat)) 1)), (V.int .i64 (gi (rd u87 (0 + i5.toNat)) 2)), (V.int .i64 (gi (rd u87 (0 + i5.toNat)) 3)), (V.inl t_byte r89.2), (V.inl t_byte (gl (rd u87 (0 + i5.toNat)) 5)), (V.int .i64 (gi (rd u87 (0 + i5.toNat)) 6))]))) fun u90 => rcall (laws_markByteS (gl (rd u90 (0 + i5.toNat)) 5) r89.1) fun r91 => bif (idxOk i5 u90.length) then rlet ((u90.set (0 + i5.toNat) (V.agg [(V.int .i64 (gi (rd u90 (0 + i5.toNat)) 0)), (V.int .i64 (gi (rd u90 (0 + i5.toNat)) 1)), (V.int .i64 (gi (rd u90 (0 + i5.toNat)) 2)), (V.int .i64 (gi (rd u90 (0 + i5.toNat)) 3)), (V.inl t_byte (gl (rd u90 (0 + i5.toNat)) 4)), (V.inl t_byte r91.2), (V.int .i64 (gi (rd u90 (0 + i5.toNat)) 6))]))) fun u92 => rlet ((u92.set (0 + i5.toNat) (V.agg [(V.int .i64 (gi (rd u92 (0 + i5.toNat)) 0)), (V.int .i64 (gi (rd u92 (0 + i5.toNat)) 1)), (V.int .i64 (gi (rd u92 (0 + i5.toNat)) 2)), (V.int .i64 (gi (rd u92 (0 + i5.toNat)) 3)), (V.inl t_byte (gl (rd u92 (0 + i5.toNat)) 4)), (V.inl t_byte (gl (rd u92 (0 + i5.toNat)) 5)), (V.int .i64 r91.1)]))) fun u93 => rounds laws_markItemS_c laws_markItemS_L ((loopsIn (bodyOf Try.f51)).getD 0 .skip) k_ (⟨[(0, (V.sl 0 t_impl_Item 0 none)), (1, (V.int .i64 (IntKind.i64.wrap (r91.1 + 1)))), (5, (V.int .i64 (IntKind.i64.wrap (i5 + 1))))], [(0, some (Blk.drow t_impl_Item u93))], 1, [0]⟩ : St) else none else none else none else none else none else none else none else some ((Ex.exit 0), (⟨[(1, (V.int .i64 k1))], [(0, some (Blk.drow t_impl_Item r0))], 1, [0]⟩ : St))) := by kernel_rfl
    rw [h, laws_markItemS_l2]
    clear h
    repeat' (first | exact agr_none | refine agr_if ?_ ?_ | refine agr_call fun _ => ?_ | refine agr_let fun _ => ?_ | exact agr_leaf (by kernel_rfl) | exact ih _ _ _)
theorem laws_markItemS_lo : LoopsOk laws_markItemS_c laws_markItemS_L (bodyOf Try.f51) := by
  refine GoodAll.ok (l := [laws_markItemS_l2_e]) ?_ rfl
  refine GoodAll.cons 0 (by kernel_rfl) ?_ ?_
  · exact good_of (key := 2) (ss := ⟨[(0, (.one (.sl 0 t_impl_Item))), (1, (.one (.int .i64))), (5, (.one (.int .i64)))], [(.drow t_impl_Item)], 1, [0]⟩) (F := fun st => laws_markItemS_l2 (((((br st 0).length : Nat) : Int) - ((sv st 2).I)).toNat + 1) ((sv st 1).I) ((sv st 2).I) (br st 0)) (ix := fun r_ => 0) (ps := fun r_ => [((Ex.exit 0), (⟨[(1, (V.int .i64 r_.1))], [(0, some (Blk.drow t_impl_Item r_.2))], 1, [0]⟩ : St))]) (fun st => ((((br st 0).length : Nat) : Int) - ((sv st 2).I)).toNat + 1) fun st h => by
      have q := laws_markItemS_l2_ok (((((br st 0).length : Nat) : Int) - ((sv st 2).I)).toNat + 1) ((sv st 1).I) ((sv st 2).I) (br st 0)
      rw [show (⟨[(0, (V.sl 0 t_impl_Item 0 none)), (1, (V.int .i64 ((sv st 1).I))), (5, (V.int .i64 ((sv st 2).I)))], [(0, some (Blk.drow t_impl_Item (br st 0)))], 1, [0]⟩ : St) = st from h] at q
      exact q
  exact GoodAll.nil
def laws_markItemS_sh (r_ : Int × List V) : V × List V := ((V.int .i64 r_.1), [(V.dr t_impl_Item r_.2)])
theorem laws_markItemS_e (a : List V) (k : Int) : Agr (wkF [[.dead]] [[(.dr t_impl_Item)]]) laws_markItemS_sh (laws_markItemS a k) (evalFn laws_markItemS_c laws_markItemS_L Try.f51 [(V.dr t_impl_Item a), (V.int .i64 k)]) := by
  have h : evalFn laws_markItemS_c laws_markItemS_L Try.f51 [(V.dr t_impl_Item a), (V.int .i64 k)] = (rcall (laws_markItemS_l2 ((((a.length : Nat) : Int) - 0).toNat + 1) k 0 a) fun r94 => some ((V.int .i64 r94.1), [(V.dr t_impl_Item r94.2)])) := by kernel_rfl
  rw [h, laws_markItemS]
  clear h
  repeat' (first | exact agr_none | refine agr_if ?_ ?_ | refine agr_call fun _ => ?_ | refine agr_let fun _ => ?_ | exact agr_leaf (by kernel_rfl))
def laws_markItemS_s (args : List V) : Option (Bool × (V × List V)) := bif argsOk [(.one (.dr t_impl_Item)), (.one (.int .i64))] args then some ((laws_markItemS ((rd args 0).L) ((rd args 1).I)).isSome, laws_markItemS_sh ((laws_markItemS ((rd args 0).L) ((rd args 1).I)).getD default)) else none
theorem laws_markItemS_s_ok : ∀ args r, laws_markItemS_s args = some (true, r) → SumOk Try.prog tab 51 args r :=
  Base.sum (cfg := laws_markItemS_c) (F := fun args => laws_markItemS ((rd args 0).L) ((rd args 1).I)) (shr := laws_markItemS_sh) base laws_markItemS_c_ok Try.func51 (by kernel_rfl) laws_markItemS_lo [(.one (.dr t_impl_Item)), (.one (.int .i64))] (by kernel_rfl) [[.dead]] [[(.dr t_impl_Item)]] (by kernel_rfl) fun args h => by
    have q := laws_markItemS_e ((rd args 0).L) ((rd args 1).I)
    rw [show [(V.dr t_impl_Item ((rd args 0).L)), (V.int .i64 ((rd args 1).I))] = args from h] at q
    exact q
end Go.Eng.R
