/- An own evaluator of the program's form, proved sound, and what it says of this law's functions: part 5. -/
import Derived.Test.YtmkjebekmeefcaaE4
set_option linter.unusedVariables false
open Go Go.Eng Go.Proofs
namespace Go.Eng.R
def laws_markByteS_c : Cfg := ⟨tab, sumsOf [], fun _ => false, fun f => (look [] f).getD [], false, fun _ => false⟩
theorem laws_markByteS_c_ok : SumsOk Try.prog tab laws_markByteS_c.sums := sums_nil
def laws_markByteS_l2_F (st : St) : Option (Int × List V) := laws_markByteS_l2 (((((br st 0).length : Nat) : Int) - ((sv st 2).I)).toNat + 1) ((sv st 1).I) ((sv st 2).I) (br st 0)
def laws_markByteS_l2_ps (r_ : Int × List V) : List (Ex × St) := [((Ex.exit 0), (⟨[(1, (vi r_.1))], [(0, some (Blk.drow t_byte r_.2))], 1, [0]⟩ : St))]
def laws_markByteS_l2_ss : SS := ⟨[(0, (.one (.sl 0 t_byte))), (1, (.one (.int .i64))), (5, (.one (.int .i64)))], [(.drow t_byte)], 1, [0]⟩
def laws_markByteS_l2_e : LE := ⟨2, laws_markByteS_l2_ss, fun st => Out.tst (laws_markByteS_l2_F st).isSome (brs ((fun r_ => 0) ((laws_markByteS_l2_F st).getD default)) 0 (laws_markByteS_l2_ps ((laws_markByteS_l2_F st).getD default)))⟩
def laws_markByteS_L : Loops := ⟨fun k => (look [(2, [0, 1, 5])] k).getD [], fun k => (look [] k).getD [], fun k => (look [(2, [1])] k).getD [], runL [laws_markByteS_l2_e]⟩
theorem laws_markByteS_l2_ok (k_ : Nat) : ∀ (k1 : Int) (i5 : Int) (r0 : List V), Agr id (fun r_ => pick (0) 0 (laws_markByteS_l2_ps r_)) (laws_markByteS_l2 k_ k1 i5 r0) (rounds laws_markByteS_c laws_markByteS_L ((loopsIn (bodyOf Try.f100)).getD 0 .skip) k_ (⟨[(0, (vs 0 t_byte)), (1, (vi k1)), (5, (vi i5))], [(0, some (Blk.drow t_byte r0))], 1, [0]⟩ : St)) := by
  induction k_ with
  | zero => intros; exact A0
  | succ k_ ih =>
    intro k1 i5 r0
    have h : rounds laws_markByteS_c laws_markByteS_L ((loopsIn (bodyOf Try.f100)).getD 0 .skip) (k_ + 1) (⟨[(0, (vs 0 t_byte)), (1, (vi k1)), (5, (vi i5))], [(0, some (Blk.drow t_byte r0))], 1, [0]⟩ : St) = (bif (decide (i5 < (ln r0))) then bif (idxOk i5 r0.length) then rounds laws_markByteS_c laws_markByteS_L ((loopsIn (bodyOf Try.f100)).getD 0 .skip) k_ (⟨[(0, (vs 0 t_byte)), (1, (vi (w6 (k1 + 1)))), (5, (vi (w6 (i5 + 1))))], [(0, some (Blk.drow t_byte (r0.set (0 + i5.toNat) (V.int .u8 (IntKind.u8.wrap k1)))))], 1, [0]⟩ : St) else none else some ((Ex.exit 0), (⟨[(1, (vi k1))], [(0, some (Blk.drow t_byte r0))], 1, [0]⟩ : St))) := by kernel_rfl
    rw [h, laws_markByteS_l2]
    clear h
    repeat' (first | exact A0 | refine A1 ?_ ?_ | refine A2 fun _ => ?_ | refine A3 fun _ => ?_ | exact A4 (by kernel_rfl) | exact ih _ _ _)
theorem laws_markByteS_lo : LoopsOk laws_markByteS_c laws_markByteS_L (bodyOf Try.f100) := by
  refine GoodAll.ok (l := [laws_markByteS_l2_e]) ?_ rfl
  refine GoodAll.cons 0 (by kernel_rfl) ?_ ?_
  · exact good_of (key := 2) (ss := laws_markByteS_l2_ss) (F := laws_markByteS_l2_F) (ix := fun r_ => 0) (ps := laws_markByteS_l2_ps) (fun st => ((((br st 0).length : Nat) : Int) - ((sv st 2).I)).toNat + 1) fun st h => by
      have q := laws_markByteS_l2_ok (((((br st 0).length : Nat) : Int) - ((sv st 2).I)).toNat + 1) ((sv st 1).I) ((sv st 2).I) (br st 0)
      rw [show (⟨[(0, (vs 0 t_byte)), (1, (vi ((sv st 1).I))), (5, (vi ((sv st 2).I)))], [(0, some (Blk.drow t_byte (br st 0)))], 1, [0]⟩ : St) = st from h] at q
      exact q
  exact GoodAll.nil
def laws_markByteS_sh (r_ : Int × List V) : V × List V := ((vi r_.1), [(V.dr t_byte r_.2)])
theorem laws_markByteS_e (a : List V) (k : Int) : Agr (wkF [[.dead]] [[(.dr t_byte)]]) laws_markByteS_sh (laws_markByteS a k) (evalFn laws_markByteS_c laws_markByteS_L Try.f100 [(V.dr t_byte a), (vi k)]) := by
  have h : evalFn laws_markByteS_c laws_markByteS_L Try.f100 [(V.dr t_byte a), (vi k)] = (rcall (laws_markByteS_l2 (((ln a) - 0).toNat + 1) k 0 a) fun r163 => some ((vi r163.1), [(V.dr t_byte r163.2)])) := by kernel_rfl
  rw [h, laws_markByteS]
  clear h
  repeat' (first | exact A0 | refine A1 ?_ ?_ | refine A2 fun _ => ?_ | refine A3 fun _ => ?_ | exact A4 (by kernel_rfl))
def laws_markByteS_A : List S2 := [(.one (.dr t_byte)), (.one (.int .i64))]
def laws_markByteS_F (args : List V) : Option (Int × List V) := laws_markByteS ((rd args 0).L) ((rd args 1).I)
def laws_markByteS_s (args : List V) : Option (Bool × (V × List V)) := bif argsOk laws_markByteS_A args then some ((laws_markByteS_F args).isSome, laws_markByteS_sh ((laws_markByteS_F args).getD default)) else none
theorem laws_markByteS_s_ok : ∀ args r, laws_markByteS_s args = some (true, r) → SumOk Try.prog tab 100 args r :=
  Base.sum (cfg := laws_markByteS_c) (F := laws_markByteS_F) (shr := laws_markByteS_sh) base laws_markByteS_c_ok Try.func100 (by kernel_rfl) laws_markByteS_lo laws_markByteS_A (by kernel_rfl) [[.dead]] [[(.dr t_byte)]] (by kernel_rfl) fun args h => by
    have q := laws_markByteS_e ((rd args 0).L) ((rd args 1).I)
    rw [show [(V.dr t_byte ((rd args 0).L)), (vi ((rd args 1).I))] = args from h] at q
    exact q
def laws_markItemS_c : Cfg := ⟨tab, sumsOf [(100, laws_markByteS_s)], fun f => Nat.beq f 100, fun f => (look [(100, [some t_byte, none])] f).getD [], false, fun _ => false⟩
theorem laws_markItemS_c_ok : SumsOk Try.prog tab laws_markItemS_c.sums := sums_cons f100_en laws_markByteS_s_ok (sums_nil)
def laws_markItemS_l2_F (st : St) : Option (Int × List V) := laws_markItemS_l2 (((((br st 0).length : Nat) : Int) - ((sv st 2).I)).toNat + 1) ((sv st 1).I) ((sv st 2).I) (br st 0)
def laws_markItemS_l2_ps (r_ : Int × List V) : List (Ex × St) := [((Ex.exit 0), (⟨[(1, (vi r_.1))], [(0, some (Blk.drow t_impl_Item r_.2))], 1, [0]⟩ : St))]
def laws_markItemS_l2_ss : SS := ⟨[(0, (.one (.sl 0 t_impl_Item))), (1, (.one (.int .i64))), (5, (.one (.int .i64)))], [(.drow t_impl_Item)], 1, [0]⟩
def laws_markItemS_l2_e : LE := ⟨2, laws_markItemS_l2_ss, fun st => Out.tst (laws_markItemS_l2_F st).isSome (brs ((fun r_ => 0) ((laws_markItemS_l2_F st).getD default)) 0 (laws_markItemS_l2_ps ((laws_markItemS_l2_F st).getD default)))⟩
def laws_markItemS_L : Loops := ⟨fun k => (look [(2, [0, 1, 5])] k).getD [], fun k => (look [] k).getD [], fun k => (look [(2, [1])] k).getD [], runL [laws_markItemS_l2_e]⟩
set_option maxRecDepth 100000 in
theorem laws_markItemS_l2_ok (k_ : Nat) : ∀ (k1 : Int) (i5 : Int) (r0 : List V), Agr id (fun r_ => pick (0) 0 (laws_markItemS_l2_ps r_)) (laws_markItemS_l2 k_ k1 i5 r0) (rounds laws_markItemS_c laws_markItemS_L ((loopsIn (bodyOf Try.f51)).getD 0 .skip) k_ (⟨[(0, (vs 0 t_impl_Item)), (1, (vi k1)), (5, (vi i5))], [(0, some (Blk.drow t_impl_Item r0))], 1, [0]⟩ : St)) := by
  induction k_ with
  | zero => intros; exact A0
  | succ k_ ih =>
    intro k1 i5 r0
    have h : rounds laws_markItemS_c laws_markItemS_L ((loopsIn (bodyOf Try.f51)).getD 0 .skip) (k_ + 1) (⟨[(0, (vs 0 t_impl_Item)), (1, (vi k1)), (5, (vi i5))], [(0, some (Blk.drow t_impl_Item r0))], 1, [0]⟩ : St) = (bif (decide (i5 < (ln r0))) then bif (idxOk i5 r0.length) then rlet ((r0.set (0 + i5.toNat) (V.agg [(vi k1), (vi (gi (rd r0 (0 + i5.toNat)) 1)), (vi (gi (rd r0 (0 + i5.toNat)) 2)), (vi (gi (rd r0 (0 + i5.toNat)) 3)), (V.inl t_byte (gl (rd r0 (0 + i5.toNat)) 4)), (V.inl t_byte (gl (rd r0 (0 + i5.toNat)) 5)), (vi (gi (rd r0 (0 + i5.toNat)) 6))]))) fun u159 => bif (idxOk i5 u159.length) then rlet ((u159.set (0 + i5.toNat) (V.agg [(vi (gi (rd u159 (0 + i5.toNat)) 0)), (vi (w6 (k1 + 1))), (vi (gi (rd u159 (0 + i5.toNat)) 2)), (vi (gi (rd u159 (0 + i5.toNat)) 3)), (V.inl t_byte (gl (rd u159 (0 + i5.toNat)) 4)), (V.inl t_byte (gl (rd u159 (0 + i5.toNat)) 5)), (vi (gi (rd u159 (0 + i5.toNat)) 6))]))) fun u160 => bif (idxOk i5 u160.length) then rlet ((u160.set (0 + i5.toNat) (V.agg [(vi (gi (rd u160 (0 + i5.toNat)) 0)), (vi (gi (rd u160 (0 + i5.toNat)) 1)), (vi (w6 ((w6 (k1 + 1)) + 1))), (vi (gi (rd u160 (0 + i5.toNat)) 3)), (V.inl t_byte (gl (rd u160 (0 + i5.toNat)) 4)), (V.inl t_byte (gl (rd u160 (0 + i5.toNat)) 5)), (vi (gi (rd u160 (0 + i5.toNat)) 6))]))) fun u161 => bif (idxOk i5 u161.length) then rlet ((u161.set (0 + i5.toNat) (V.agg [(vi (gi (rd u161 (0 + i5.toNat)) 0)), (vi (gi (rd u161 (0 + i5.toNat)) 1)), (vi (gi (rd u161 (0 + i5.toNat)) 2)), (vi (w6 ((w6 ((w6 (k1 + 1)) + 1)) + 1))), (V.inl t_byte (gl (rd u161 (0 + i5.toNat)) 4)), (V.inl t_byte (gl (rd u161 (0 + i5.toNat)) 5)), (vi (gi (rd u161 (0 + i5.toNat)) 6))]))) fun u162 => bif (idxOk i5 u162.length) then rcall (laws_markByteS (gl (rd u162 (0 + i5.toNat)) 4) (w6 ((w6 ((w6 ((w6 (k1 + 1)) + 1)) + 1)) + 1))) fun r164 => bif (idxOk i5 u162.length) then rlet ((u162.set (0 + i5.toNat) (V.agg [(vi (gi (rd u162 (0 + i5.toNat)) 0)), (vi (gi (rd u162 (0 + i5.toNat)) 1)), (vi (gi (rd u162 (0 + i5.toNat)) 2)), (vi (gi (rd u162 (0 + i5.toNat)) 3)), (V.inl t_byte r164.2), (V.inl t_byte (gl (rd u162 (0 + i5.toNat)) 5)), (vi (gi (rd u162 (0 + i5.toNat)) 6))]))) fun u165 => rcall (laws_markByteS (gl (rd u165 (0 + i5.toNat)) 5) r164.1) fun r166 => bif (idxOk i5 u165.length) then rlet ((u165.set (0 + i5.toNat) (V.agg [(vi (gi (rd u165 (0 + i5.toNat)) 0)), (vi (gi (rd u165 (0 + i5.toNat)) 1)), (vi (gi (rd u165 (0 + i5.toNat)) 2)), (vi (gi (rd u165 (0 + i5.toNat)) 3)), (V.inl t_byte (gl (rd u165 (0 + i5.toNat)) 4)), (V.inl t_byte r166.2), (vi (gi (rd u165 (0 + i5.toNat)) 6))]))) fun u167 => rlet ((u167.set (0 + i5.toNat) (V.agg [(vi (gi (rd u167 (0 + i5.toNat)) 0)), (vi (gi (rd u167 (0 + i5.toNat)) 1)), (vi (gi (rd u167 (0 + i5.toNat)) 2)), (vi (gi (rd u167 (0 + i5.toNat)) 3)), (V.inl t_byte (gl (rd u167 (0 + i5.toNat)) 4)), (V.inl t_byte (gl (rd u167 (0 + i5.toNat)) 5)), (vi r166.1)]))) fun u168 => rounds laws_markItemS_c laws_markItemS_L ((loopsIn (bodyOf Try.f51)).getD 0 .skip) k_ (⟨[(0, (vs 0 t_impl_Item)), (1, (vi (w6 (r166.1 + 1)))), (5, (vi (w6 (i5 + 1))))], [(0, some (Blk.drow t_impl_Item u168))], 1, [0]⟩ : St) else none else none else none else none else none else none else none else some ((Ex.exit 0), (⟨[(1, (vi k1))], [(0, some (Blk.drow t_impl_Item r0))], 1, [0]⟩ : St))) := by kernel_rfl
    rw [h, laws_markItemS_l2]
    clear h
    repeat' (first | exact A0 | refine A1 ?_ ?_ | refine A2 fun _ => ?_ | refine A3 fun _ => ?_ | exact A4 (by kernel_rfl) | exact ih _ _ _)
theorem laws_markItemS_lo : LoopsOk laws_markItemS_c laws_markItemS_L (bodyOf Try.f51) := by
  refine GoodAll.ok (l := [laws_markItemS_l2_e]) ?_ rfl
  refine GoodAll.cons 0 (by kernel_rfl) ?_ ?_
  · exact good_of (key := 2) (ss := laws_markItemS_l2_ss) (F := laws_markItemS_l2_F) (ix := fun r_ => 0) (ps := laws_markItemS_l2_ps) (fun st => ((((br st 0).length : Nat) : Int) - ((sv st 2).I)).toNat + 1) fun st h => by
      have q := laws_markItemS_l2_ok (((((br st 0).length : Nat) : Int) - ((sv st 2).I)).toNat + 1) ((sv st 1).I) ((sv st 2).I) (br st 0)
      rw [show (⟨[(0, (vs 0 t_impl_Item)), (1, (vi ((sv st 1).I))), (5, (vi ((sv st 2).I)))], [(0, some (Blk.drow t_impl_Item (br st 0)))], 1, [0]⟩ : St) = st from h] at q
      exact q
  exact GoodAll.nil
def laws_markItemS_sh (r_ : Int × List V) : V × List V := ((vi r_.1), [(V.dr t_impl_Item r_.2)])
theorem laws_markItemS_e (a : List V) (k : Int) : Agr (wkF [[.dead]] [[(.dr t_impl_Item)]]) laws_markItemS_sh (laws_markItemS a k) (evalFn laws_markItemS_c laws_markItemS_L Try.f51 [(V.dr t_impl_Item a), (vi k)]) := by
  have h : evalFn laws_markItemS_c laws_markItemS_L Try.f51 [(V.dr t_impl_Item a), (vi k)] = (rcall (laws_markItemS_l2 (((ln a) - 0).toNat + 1) k 0 a) fun r169 => some ((vi r169.1), [(V.dr t_impl_Item r169.2)])) := by kernel_rfl
  rw [h, laws_markItemS]
  clear h
  repeat' (first | exact A0 | refine A1 ?_ ?_ | refine A2 fun _ => ?_ | refine A3 fun _ => ?_ | exact A4 (by kernel_rfl))
def laws_markItemS_A : List S2 := [(.one (.dr t_impl_Item)), (.one (.int .i64))]
def laws_markItemS_F (args : List V) : Option (Int × List V) := laws_markItemS ((rd args 0).L) ((rd args 1).I)
def laws_markItemS_s (args : List V) : Option (Bool × (V × List V)) := bif argsOk laws_markItemS_A args then some ((laws_markItemS_F args).isSome, laws_markItemS_sh ((laws_markItemS_F args).getD default)) else none
theorem laws_markItemS_s_ok : ∀ args r, laws_markItemS_s args = some (true, r) → SumOk Try.prog tab 51 args r :=
  Base.sum (cfg := laws_markItemS_c) (F := laws_markItemS_F) (shr := laws_markItemS_sh) base laws_markItemS_c_ok Try.func51 (by kernel_rfl) laws_markItemS_lo laws_markItemS_A (by kernel_rfl) [[.dead]] [[(.dr t_impl_Item)]] (by kernel_rfl) fun args h => by
    have q := laws_markItemS_e ((rd args 0).L) ((rd args 1).I)
    rw [show [(V.dr t_impl_Item ((rd args 0).L)), (vi ((rd args 1).I))] = args from h] at q
    exact q
def laws_markBoolS_c : Cfg := ⟨tab, sumsOf [], fun _ => false, fun f => (look [] f).getD [], false, fun _ => false⟩
theorem laws_markBoolS_c_ok : SumsOk Try.prog tab laws_markBoolS_c.sums := sums_nil
def laws_markBoolS_l2_F (st : St) : Option (Int × List V) := laws_markBoolS_l2 (((((br st 0).length : Nat) : Int) - ((sv st 2).I)).toNat + 1) ((sv st 1).I) ((sv st 2).I) (br st 0)
def laws_markBoolS_l2_ps (r_ : Int × List V) : List (Ex × St) := [((Ex.exit 0), (⟨[(1, (vi r_.1))], [(0, some (Blk.drow t_bool r_.2))], 1, [0]⟩ : St))]
def laws_markBoolS_l2_ss : SS := ⟨[(0, (.one (.sl 0 t_bool))), (1, (.one (.int .i64))), (5, (.one (.int .i64)))], [(.drow t_bool)], 1, [0]⟩
def laws_markBoolS_l2_e : LE := ⟨2, laws_markBoolS_l2_ss, fun st => Out.tst (laws_markBoolS_l2_F st).isSome (brs ((fun r_ => 0) ((laws_markBoolS_l2_F st).getD default)) 0 (laws_markBoolS_l2_ps ((laws_markBoolS_l2_F st).getD default)))⟩
def laws_markBoolS_L : Loops := ⟨fun k => (look [(2, [0, 1, 5])] k).getD [], fun k => (look [] k).getD [], fun k => (look [(2, [1])] k).getD [], runL [laws_markBoolS_l2_e]⟩
theorem laws_markBoolS_l2_ok (k_ : Nat) : ∀ (k1 : Int) (i5 : Int) (r0 : List V), Agr id (fun r_ => pick (0) 0 (laws_markBoolS_l2_ps r_)) (laws_markBoolS_l2 k_ k1 i5 r0) (rounds laws_markBoolS_c laws_markBoolS_L ((loopsIn (bodyOf Try.f52)).getD 0 .skip) k_ (⟨[(0, (vs 0 t_bool)), (1, (vi k1)), (5, (vi i5))], [(0, some (Blk.drow t_bool r0))], 1, [0]⟩ : St)) := by
  induction k_ with
  | zero => intros; exact A0
  | succ k_ ih =>
    intro k1 i5 r0
    have h : rounds laws_markBoolS_c laws_markBoolS_L ((loopsIn (bodyOf Try.f52)).getD 0 .skip) (k_ + 1) (⟨[(0, (vs 0 t_bool)), (1, (vi k1)), (5, (vi i5))], [(0, some (Blk.drow t_bool r0))], 1, [0]⟩ : St) = (bif (decide (i5 < (ln r0))) then bif (idxOk i5 r0.length) then rounds laws_markBoolS_c laws_markBoolS_L ((loopsIn (bodyOf Try.f52)).getD 0 .skip) k_ (⟨[(0, (vs 0 t_bool)), (1, (vi (w6 (k1 + 1)))), (5, (vi (w6 (i5 + 1))))], [(0, some (Blk.drow t_bool (r0.set (0 + i5.toNat) (V.bool (decide ((k1.tmod 3) = 0))))))], 1, [0]⟩ : St) else none else some ((Ex.exit 0), (⟨[(1, (vi k1))], [(0, some (Blk.drow t_bool r0))], 1, [0]⟩ : St))) := by kernel_rfl
    rw [h, laws_markBoolS_l2]
    clear h
    repeat' (first | exact A0 | refine A1 ?_ ?_ | refine A2 fun _ => ?_ | refine A3 fun _ => ?_ | exact A4 (by kernel_rfl) | exact ih _ _ _)
theorem laws_markBoolS_lo : LoopsOk laws_markBoolS_c laws_markBoolS_L (bodyOf Try.f52) := by
  refine GoodAll.ok (l := [laws_markBoolS_l2_e]) ?_ rfl
  refine GoodAll.cons 0 (by kernel_rfl) ?_ ?_
  · exact good_of (key := 2) (ss := laws_markBoolS_l2_ss) (F := laws_markBoolS_l2_F) (ix := fun r_ => 0) (ps := laws_markBoolS_l2_ps) (fun st => ((((br st 0).length : Nat) : Int) - ((sv st 2).I)).toNat + 1) fun st h => by
      have q := laws_markBoolS_l2_ok (((((br st 0).length : Nat) : Int) - ((sv st 2).I)).toNat + 1) ((sv st 1).I) ((sv st 2).I) (br st 0)
      rw [show (⟨[(0, (vs 0 t_bool)), (1, (vi ((sv st 1).I))), (5, (vi ((sv st 2).I)))], [(0, some (Blk.drow t_bool (br st 0)))], 1, [0]⟩ : St) = st from h] at q
      exact q
  exact GoodAll.nil
def laws_markBoolS_sh (r_ : Int × List V) : V × List V := ((vi r_.1), [(V.dr t_bool r_.2)])
theorem laws_markBoolS_e (a : List V) (k : Int) : Agr (wkF [[.dead]] [[(.dr t_bool)]]) laws_markBoolS_sh (laws_markBoolS a k) (evalFn laws_markBoolS_c laws_markBoolS_L Try.f52 [(V.dr t_bool a), (vi k)]) := by
  have h : evalFn laws_markBoolS_c laws_markBoolS_L Try.f52 [(V.dr t_bool a), (vi k)] = (rcall (laws_markBoolS_l2 (((ln a) - 0).toNat + 1) k 0 a) fun r171 => some ((vi r171.1), [(V.dr t_bool r171.2)])) := by kernel_rfl
  rw [h, laws_markBoolS]
  clear h
  repeat' (first | exact A0 | refine A1 ?_ ?_ | refine A2 fun _ => ?_ | refine A3 fun _ => ?_ | exact A4 (by kernel_rfl))
def laws_markBoolS_A : List S2 := [(.one (.dr t_bool)), (.one (.int .i64))]
def laws_markBoolS_F (args : List V) : Option (Int × List V) := laws_markBoolS ((rd args 0).L) ((rd args 1).I)
def laws_markBoolS_s (args : List V) : Option (Bool × (V × List V)) := bif argsOk laws_markBoolS_A args then some ((laws_markBoolS_F args).isSome, laws_markBoolS_sh ((laws_markBoolS_F args).getD default)) else none
theorem laws_markBoolS_s_ok : ∀ args r, laws_markBoolS_s args = some (true, r) → SumOk Try.prog tab 52 args r :=
  Base.sum (cfg := laws_markBoolS_c) (F := laws_markBoolS_F) (shr := laws_markBoolS_sh) base laws_markBoolS_c_ok Try.func52 (by kernel_rfl) laws_markBoolS_lo laws_markBoolS_A (by kernel_rfl) [[.dead]] [[(.dr t_bool)]] (by kernel_rfl) fun args h => by
    have q := laws_markBoolS_e ((rd args 0).L) ((rd args 1).I)
    rw [show [(V.dr t_bool ((rd args 0).L)), (vi ((rd args 1).I))] = args from h] at q
    exact q
def laws_markIntS_c : Cfg := ⟨tab, sumsOf [], fun _ => false, fun f => (look [] f).getD [], false, fun _ => false⟩
theorem laws_markIntS_c_ok : SumsOk Try.prog tab laws_markIntS_c.sums := sums_nil
def laws_markIntS_l2_F (st : St) : Option (Int × List V) := laws_markIntS_l2 (((((br st 0).length : Nat) : Int) - ((sv st 2).I)).toNat + 1) ((sv st 1).I) ((sv st 2).I) (br st 0)
def laws_markIntS_l2_ps (r_ : Int × List V) : List (Ex × St) := [((Ex.exit 0), (⟨[(1, (vi r_.1))], [(0, some (Blk.drow t_int' r_.2))], 1, [0]⟩ : St))]
def laws_markIntS_l2_ss : SS := ⟨[(0, (.one (.sl 0 t_int'))), (1, (.one (.int .i64))), (5, (.one (.int .i64)))], [(.drow t_int')], 1, [0]⟩
def laws_markIntS_l2_e : LE := ⟨2, laws_markIntS_l2_ss, fun st => Out.tst (laws_markIntS_l2_F st).isSome (brs ((fun r_ => 0) ((laws_markIntS_l2_F st).getD default)) 0 (laws_markIntS_l2_ps ((laws_markIntS_l2_F st).getD default)))⟩
def laws_markIntS_L : Loops := ⟨fun k => (look [(2, [0, 1, 5])] k).getD [], fun k => (look [] k).getD [], fun k => (look [(2, [1])] k).getD [], runL [laws_markIntS_l2_e]⟩
theorem laws_markIntS_l2_ok (k_ : Nat) : ∀ (k1 : Int) (i5 : Int) (r0 : List V), Agr id (fun r_ => pick (0) 0 (laws_markIntS_l2_ps r_)) (laws_markIntS_l2 k_ k1 i5 r0) (rounds laws_markIntS_c laws_markIntS_L ((loopsIn (bodyOf Try.f53)).getD 0 .skip) k_ (⟨[(0, (vs 0 t_int')), (1, (vi k1)), (5, (vi i5))], [(0, some (Blk.drow t_int' r0))], 1, [0]⟩ : St)) := by
  induction k_ with
  | zero => intros; exact A0
  | succ k_ ih =>
    intro k1 i5 r0
    have h : rounds laws_markIntS_c laws_markIntS_L ((loopsIn (bodyOf Try.f53)).getD 0 .skip) (k_ + 1) (⟨[(0, (vs 0 t_int')), (1, (vi k1)), (5, (vi i5))], [(0, some (Blk.drow t_int' r0))], 1, [0]⟩ : St) = (bif (decide (i5 < (ln r0))) then bif (idxOk i5 r0.length) then rounds laws_markIntS_c laws_markIntS_L ((loopsIn (bodyOf Try.f53)).getD 0 .skip) k_ (⟨[(0, (vs 0 t_int')), (1, (vi (w6 (k1 + 1)))), (5, (vi (w6 (i5 + 1))))], [(0, some (Blk.drow t_int' (r0.set (0 + i5.toNat) (vi k1))))], 1, [0]⟩ : St) else none else some ((Ex.exit 0), (⟨[(1, (vi k1))], [(0, some (Blk.drow t_int' r0))], 1, [0]⟩ : St))) := by kernel_rfl
    rw [h, laws_markIntS_l2]
    clear h
    repeat' (first | exact A0 | refine A1 ?_ ?_ | refine A2 fun _ => ?_ | refine A3 fun _ => ?_ | exact A4 (by kernel_rfl) | exact ih _ _ _)
theorem laws_markIntS_lo : LoopsOk laws_markIntS_c laws_markIntS_L (bodyOf Try.f53) := by
  refine GoodAll.ok (l := [laws_markIntS_l2_e]) ?_ rfl
  refine GoodAll.cons 0 (by kernel_rfl) ?_ ?_
  · exact good_of (key := 2) (ss := laws_markIntS_l2_ss) (F := laws_markIntS_l2_F) (ix := fun r_ => 0) (ps := laws_markIntS_l2_ps) (fun st => ((((br st 0).length : Nat) : Int) - ((sv st 2).I)).toNat + 1) fun st h => by
      have q := laws_markIntS_l2_ok (((((br st 0).length : Nat) : Int) - ((sv st 2).I)).toNat + 1) ((sv st 1).I) ((sv st 2).I) (br st 0)
      rw [show (⟨[(0, (vs 0 t_int')), (1, (vi ((sv st 1).I))), (5, (vi ((sv st 2).I)))], [(0, some (Blk.drow t_int' (br st 0)))], 1, [0]⟩ : St) = st from h] at q
      exact q
  exact GoodAll.nil
def laws_markIntS_sh (r_ : Int × List V) : V × List V := ((vi r_.1), [(V.dr t_int' r_.2)])
theorem laws_markIntS_e (a : List V) (k : Int) : Agr (wkF [[.dead]] [[(.dr t_int')]]) laws_markIntS_sh (laws_markIntS a k) (evalFn laws_markIntS_c laws_markIntS_L Try.f53 [(V.dr t_int' a), (vi k)]) := by
  have h : evalFn laws_markIntS_c laws_markIntS_L Try.f53 [(V.dr t_int' a), (vi k)] = (rcall (laws_markIntS_l2 (((ln a) - 0).toNat + 1) k 0 a) fun r173 => some ((vi r173.1), [(V.dr t_int' r173.2)])) := by kernel_rfl
  rw [h, laws_markIntS]
  clear h
  repeat' (first | exact A0 | refine A1 ?_ ?_ | refine A2 fun _ => ?_ | refine A3 fun _ => ?_ | exact A4 (by kernel_rfl))
def laws_markIntS_A : List S2 := [(.one (.dr t_int')), (.one (.int .i64))]
def laws_markIntS_F (args : List V) : Option (Int × List V) := laws_markIntS ((rd args 0).L) ((rd args 1).I)
def laws_markIntS_s (args : List V) : Option (Bool × (V × List V)) := bif argsOk laws_markIntS_A args then some ((laws_markIntS_F args).isSome, laws_markIntS_sh ((laws_markIntS_F args).getD default)) else none
theorem laws_markIntS_s_ok : ∀ args r, laws_markIntS_s args = some (true, r) → SumOk Try.prog tab 53 args r :=
  Base.sum (cfg := laws_markIntS_c) (F := laws_markIntS_F) (shr := laws_markIntS_sh) base laws_markIntS_c_ok Try.func53 (by kernel_rfl) laws_markIntS_lo laws_markIntS_A (by kernel_rfl) [[.dead]] [[(.dr t_int')]] (by kernel_rfl) fun args h => by
    have q := laws_markIntS_e ((rd args 0).L) ((rd args 1).I)
    rw [show [(V.dr t_int' ((rd args 0).L)), (vi ((rd args 1).I))] = args from h] at q
    exact q
def laws_markNode_c : Cfg := ⟨tab, sumsOf [(51, laws_markItemS_s), (52, laws_markBoolS_s), (53, laws_markIntS_s)], fun f => Nat.beq f 51 || Nat.beq f 52 || Nat.beq f 53, fun f => (look [(51, [some t_impl_Item, none]), (52, [some t_bool, none]), (53, [some t_int', none])] f).getD [], false, fun _ => false⟩
theorem laws_markNode_c_ok : SumsOk Try.prog tab laws_markNode_c.sums := sums_cons f51_en laws_markItemS_s_ok (sums_cons f52_en laws_markBoolS_s_ok (sums_cons f53_en laws_markIntS_s_ok (sums_nil)))
abbrev laws_markNode_L : Loops := noL
def laws_markNode_sh (r_ : Int × List V × List V × List V × List V) : V × List V := ((vi r_.1), [(V.dr t_impl_Item r_.2.1), (V.dr t_bool r_.2.2.1), (V.dr t_int' r_.2.2.2.1), (V.dr t_int' r_.2.2.2.2)])
theorem laws_markNode_e (a : V) (k : Int) : Agr (wkF [[.dead]] [[(.dr t_impl_Item)], [(.dr t_bool)], [(.dr t_int')], [(.dr t_int')]]) laws_markNode_sh (laws_markNode a k) (evalFn laws_markNode_c laws_markNode_L Try.f13 [(h52 a), (vi k)]) := by
  have h : evalFn laws_markNode_c laws_markNode_L Try.f13 [(h52 a), (vi k)] = (rcall (laws_markItemS (gl a 3) k) fun r170 => rcall (laws_markBoolS (gl a 8) r170.1) fun r172 => rcall (laws_markIntS (gl a 9) r172.1) fun r174 => rcall (laws_markIntS (gl a 10) r174.1) fun r175 => some ((vi r175.1), [(V.dr t_impl_Item r170.2), (V.dr t_bool r172.2), (V.dr t_int' r174.2), (V.dr t_int' r175.2)])) := by kernel_rfl
  rw [h, laws_markNode]
  clear h
  repeat' (first | exact A0 | refine A1 ?_ ?_ | refine A2 fun _ => ?_ | refine A3 fun _ => ?_ | exact A4 (by kernel_rfl))
def laws_markNode_A : List S2 := [(.agg q53), (.one (.int .i64))]
def laws_markNode_F (args : List V) : Option (Int × List V × List V × List V × List V) := laws_markNode (rd args 0) ((rd args 1).I)
def laws_markNode_s (args : List V) : Option (Bool × (V × List V)) := bif argsOk laws_markNode_A args then some ((laws_markNode_F args).isSome, laws_markNode_sh ((laws_markNode_F args).getD default)) else none
theorem laws_markNode_s_ok : ∀ args r, laws_markNode_s args = some (true, r) → SumOk Try.prog tab 13 args r :=
  Base.sum (cfg := laws_markNode_c) (F := laws_markNode_F) (shr := laws_markNode_sh) base laws_markNode_c_ok Try.func13 (by kernel_rfl) noLo laws_markNode_A (by kernel_rfl) [[.dead]] [[(.dr t_impl_Item)], [(.dr t_bool)], [(.dr t_int')], [(.dr t_int')]] (by kernel_rfl) fun args h => by
    have q := laws_markNode_e (rd args 0) ((rd args 1).I)
    rw [show [(h52 (rd args 0)), (vi ((rd args 1).I))] = args from h] at q
    exact q
def laws_markMsgS_c : Cfg := ⟨tab, sumsOf [(51, laws_markItemS_s)], fun f => Nat.beq f 51, fun f => (look [(51, [some t_impl_Item, none])] f).getD [], false, fun _ => false⟩
theorem laws_markMsgS_c_ok : SumsOk Try.prog tab laws_markMsgS_c.sums := sums_cons f51_en laws_markItemS_s_ok (sums_nil)
def laws_markMsgS_l2_F (st : St) : Option (Int × List V) := laws_markMsgS_l2 (((((br st 0).length : Nat) : Int) - ((sv st 2).I)).toNat + 1) ((sv st 1).I) ((sv st 2).I) (br st 0)
def laws_markMsgS_l2_ps (r_ : Int × List V) : List (Ex × St) := [((Ex.exit 0), (⟨[(1, (vi r_.1))], [(0, some (Blk.drow t_impl_Msg r_.2))], 1, [0]⟩ : St))]
def laws_markMsgS_l2_ss : SS := ⟨[(0, (.one (.sl 0 t_impl_Msg))), (1, (.one (.int .i64))), (5, (.one (.int .i64)))], [(.drow t_impl_Msg)], 1, [0]⟩
def laws_markMsgS_l2_e : LE := ⟨2, laws_markMsgS_l2_ss, fun st => Out.tst (laws_markMsgS_l2_F st).isSome (brs ((fun r_ => 0) ((laws_markMsgS_l2_F st).getD default)) 0 (laws_markMsgS_l2_ps ((laws_markMsgS_l2_F st).getD default)))⟩
def laws_markMsgS_L : Loops := ⟨fun k => (look [(2, [0, 1, 5])] k).getD [], fun k => (look [] k).getD [], fun k => (look [(2, [1])] k).getD [], runL [laws_markMsgS_l2_e]⟩
set_option maxRecDepth 100000 in
theorem laws_markMsgS_l2_ok (k_ : Nat) : ∀ (k1 : Int) (i5 : Int) (r0 : List V), Agr id (fun r_ => pick (0) 0 (laws_markMsgS_l2_ps r_)) (laws_markMsgS_l2 k_ k1 i5 r0) (rounds laws_markMsgS_c laws_markMsgS_L ((loopsIn (bodyOf Try.f27)).getD 0 .skip) k_ (⟨[(0, (vs 0 t_impl_Msg)), (1, (vi k1)), (5, (vi i5))], [(0, some (Blk.drow t_impl_Msg r0))], 1, [0]⟩ : St)) := by
  induction k_ with
  | zero => intros; exact A0
  | succ k_ ih =>
    intro k1 i5 r0
    have h : rounds laws_markMsgS_c laws_markMsgS_L ((loopsIn (bodyOf Try.f27)).getD 0 .skip) (k_ + 1) (⟨[(0, (vs 0 t_impl_Msg)), (1, (vi k1)), (5, (vi i5))], [(0, some (Blk.drow t_impl_Msg r0))], 1, [0]⟩ : St) = (bif (decide (i5 < (ln r0))) then bif (idxOk i5 r0.length) then rlet ((r0.set (0 + i5.toNat) (V.agg [(vi k1), (vi (gi (rd r0 (0 + i5.toNat)) 1)), (vi (gi (rd r0 (0 + i5.toNat)) 2)), (vi (gi (rd r0 (0 + i5.toNat)) 3)), (vi (gi (rd r0 (0 + i5.toNat)) 4)), (vi (gi (rd r0 (0 + i5.toNat)) 5)), (V.inl t_impl_Item (gl (rd r0 (0 + i5.toNat)) 6)), (vi (gi (rd r0 (0 + i5.toNat)) 7)), (V.bool (gb (rd r0 (0 + i5.toNat)) 8))]))) fun u180 => bif (idxOk i5 u180.length) then rlet ((u180.set (0 + i5.toNat) (V.agg [(vi (gi (rd u180 (0 + i5.toNat)) 0)), (vi (w6 (k1 + 1))), (vi (gi (rd u180 (0 + i5.toNat)) 2)), (vi (gi (rd u180 (0 + i5.toNat)) 3)), (vi (gi (rd u180 (0 + i5.toNat)) 4)), (vi (gi (rd u180 (0 + i5.toNat)) 5)), (V.inl t_impl_Item (gl (rd u180 (0 + i5.toNat)) 6)), (vi (gi (rd u180 (0 + i5.toNat)) 7)), (V.bool (gb (rd u180 (0 + i5.toNat)) 8))]))) fun u181 => bif (idxOk i5 u181.length) then rlet ((u181.set (0 + i5.toNat) (V.agg [(vi (gi (rd u181 (0 + i5.toNat)) 0)), (vi (gi (rd u181 (0 + i5.toNat)) 1)), (vi (w6 ((w6 (k1 + 1)) + 1))), (vi (gi (rd u181 (0 + i5.toNat)) 3)), (vi (gi (rd u181 (0 + i5.toNat)) 4)), (vi (gi (rd u181 (0 + i5.toNat)) 5)), (V.inl t_impl_Item (gl (rd u181 (0 + i5.toNat)) 6)), (vi (gi (rd u181 (0 + i5.toNat)) 7)), (V.bool (gb (rd u181 (0 + i5.toNat)) 8))]))) fun u182 => bif (idxOk i5 u182.length) then rlet ((u182.set (0 + i5.toNat) (V.agg [(vi (gi (rd u182 (0 + i5.toNat)) 0)), (vi (gi (rd u182 (0 + i5.toNat)) 1)), (vi (gi (rd u182 (0 + i5.toNat)) 2)), (vi (w6 ((w6 ((w6 (k1 + 1)) + 1)) + 1))), (vi (gi (rd u182 (0 + i5.toNat)) 4)), (vi (gi (rd u182 (0 + i5.toNat)) 5)), (V.inl t_impl_Item (gl (rd u182 (0 + i5.toNat)) 6)), (vi (gi (rd u182 (0 + i5.toNat)) 7)), (V.bool (gb (rd u182 (0 + i5.toNat)) 8))]))) fun u183 => bif (idxOk i5 u183.length) then rlet ((u183.set (0 + i5.toNat) (V.agg [(vi (gi (rd u183 (0 + i5.toNat)) 0)), (vi (gi (rd u183 (0 + i5.toNat)) 1)), (vi (gi (rd u183 (0 + i5.toNat)) 2)), (vi (gi (rd u183 (0 + i5.toNat)) 3)), (vi (w6 ((w6 ((w6 ((w6 (k1 + 1)) + 1)) + 1)) + 1))), (vi (gi (rd u183 (0 + i5.toNat)) 5)), (V.inl t_impl_Item (gl (rd u183 (0 + i5.toNat)) 6)), (vi (gi (rd u183 (0 + i5.toNat)) 7)), (V.bool (gb (rd u183 (0 + i5.toNat)) 8))]))) fun u184 => bif (idxOk i5 u184.length) then rlet ((u184.set (0 + i5.toNat) (V.agg [(vi (gi (rd u184 (0 + i5.toNat)) 0)), (vi (gi (rd u184 (0 + i5.toNat)) 1)), (vi (gi (rd u184 (0 + i5.toNat)) 2)), (vi (gi (rd u184 (0 + i5.toNat)) 3)), (vi (gi (rd u184 (0 + i5.toNat)) 4)), (vi (w6 ((w6 ((w6 ((w6 ((w6 (k1 + 1)) + 1)) + 1)) + 1)) + 1))), (V.inl t_impl_Item (gl (rd u184 (0 + i5.toNat)) 6)), (vi (gi (rd u184 (0 + i5.toNat)) 7)), (V.bool (gb (rd u184 (0 + i5.toNat)) 8))]))) fun u185 => bif (idxOk i5 u185.length) then rcall (laws_markItemS (gl (rd u185 (0 + i5.toNat)) 6) (w6 ((w6 ((w6 ((w6 ((w6 ((w6 (k1 + 1)) + 1)) + 1)) + 1)) + 1)) + 1))) fun r186 => bif (idxOk i5 u185.length) then rlet ((u185.set (0 + i5.toNat) (V.agg [(vi (gi (rd u185 (0 + i5.toNat)) 0)), (vi (gi (rd u185 (0 + i5.toNat)) 1)), (vi (gi (rd u185 (0 + i5.toNat)) 2)), (vi (gi (rd u185 (0 + i5.toNat)) 3)), (vi (gi (rd u185 (0 + i5.toNat)) 4)), (vi (gi (rd u185 (0 + i5.toNat)) 5)), (V.inl t_impl_Item r186.2), (vi (gi (rd u185 (0 + i5.toNat)) 7)), (V.bool (gb (rd u185 (0 + i5.toNat)) 8))]))) fun u187 => rlet ((u187.set (0 + i5.toNat) (V.agg [(vi (gi (rd u187 (0 + i5.toNat)) 0)), (vi (gi (rd u187 (0 + i5.toNat)) 1)), (vi (gi (rd u187 (0 + i5.toNat)) 2)), (vi (gi (rd u187 (0 + i5.toNat)) 3)), (vi (gi (rd u187 (0 + i5.toNat)) 4)), (vi (gi (rd u187 (0 + i5.toNat)) 5)), (V.inl t_impl_Item (gl (rd u187 (0 + i5.toNat)) 6)), (vi r186.1), (V.bool (gb (rd u187 (0 + i5.toNat)) 8))]))) fun u188 => bif (idxOk i5 u188.length) then rlet ((u188.set (0 + i5.toNat) (V.agg [(vi (gi (rd u188 (0 + i5.toNat)) 0)), (vi (gi (rd u188 (0 + i5.toNat)) 1)), (vi (gi (rd u188 (0 + i5.toNat)) 2)), (vi (gi (rd u188 (0 + i5.toNat)) 3)), (vi (gi (rd u188 (0 + i5.toNat)) 4)), (vi (gi (rd u188 (0 + i5.toNat)) 5)), (V.inl t_impl_Item (gl (rd u188 (0 + i5.toNat)) 6)), (vi (gi (rd u188 (0 + i5.toNat)) 7)), (V.bool (decide (((w6 (r186.1 + 1)).tmod 3) = 0)))]))) fun u189 => rounds laws_markMsgS_c laws_markMsgS_L ((loopsIn (bodyOf Try.f27)).getD 0 .skip) k_ (⟨[(0, (vs 0 t_impl_Msg)), (1, (vi (w6 ((w6 (r186.1 + 1)) + 1)))), (5, (vi (w6 (i5 + 1))))], [(0, some (Blk.drow t_impl_Msg u189))], 1, [0]⟩ : St) else none else none else none else none else none else none else none else none else none else some ((Ex.exit 0), (⟨[(1, (vi k1))], [(0, some (Blk.drow t_impl_Msg r0))], 1, [0]⟩ : St))) := by kernel_rfl
    rw [h, laws_markMsgS_l2]
    clear h
    repeat' (first | exact A0 | refine A1 ?_ ?_ | refine A2 fun _ => ?_ | refine A3 fun _ => ?_ | exact A4 (by kernel_rfl) | exact ih _ _ _)
theorem laws_markMsgS_lo : LoopsOk laws_markMsgS_c laws_markMsgS_L (bodyOf Try.f27) := by
  refine GoodAll.ok (l := [laws_markMsgS_l2_e]) ?_ rfl
  refine GoodAll.cons 0 (by kernel_rfl) ?_ ?_
  · exact good_of (key := 2) (ss := laws_markMsgS_l2_ss) (F := laws_markMsgS_l2_F) (ix := fun r_ => 0) (ps := laws_markMsgS_l2_ps) (fun st => ((((br st 0).length : Nat) : Int) - ((sv st 2).I)).toNat + 1) fun st h => by
      have q := laws_markMsgS_l2_ok (((((br st 0).length : Nat) : Int) - ((sv st 2).I)).toNat + 1) ((sv st 1).I) ((sv st 2).I) (br st 0)
      rw [show (⟨[(0, (vs 0 t_impl_Msg)), (1, (vi ((sv st 1).I))), (5, (vi ((sv st 2).I)))], [(0, some (Blk.drow t_impl_Msg (br st 0)))], 1, [0]⟩ : St) = st from h] at q
      exact q
  exact GoodAll.nil
def laws_markMsgS_sh (r_ : Int × List V) : V × List V := ((vi r_.1), [(V.dr t_impl_Msg r_.2)])
theorem laws_markMsgS_e (a : List V) (k : Int) : Agr (wkF [[.dead]] [[(.dr t_impl_Msg)]]) laws_markMsgS_sh (laws_markMsgS a k) (evalFn laws_markMsgS_c laws_markMsgS_L Try.f27 [(V.dr t_impl_Msg a), (vi k)]) := by
  have h : evalFn laws_markMsgS_c laws_markMsgS_L Try.f27 [(V.dr t_impl_Msg a), (vi k)] = (rcall (laws_markMsgS_l2 (((ln a) - 0).toNat + 1) k 0 a) fun r190 => some ((vi r190.1), [(V.dr t_impl_Msg r190.2)])) := by kernel_rfl
  rw [h, laws_markMsgS]
  clear h
  repeat' (first | exact A0 | refine A1 ?_ ?_ | refine A2 fun _ => ?_ | refine A3 fun _ => ?_ | exact A4 (by kernel_rfl))
def laws_markMsgS_A : List S2 := [(.one (.dr t_impl_Msg)), (.one (.int .i64))]
def laws_markMsgS_F (args : List V) : Option (Int × List V) := laws_markMsgS ((rd args 0).L) ((rd args 1).I)
def laws_markMsgS_s (args : List V) : Option (Bool × (V × List V)) := bif argsOk laws_markMsgS_A args then some ((laws_markMsgS_F args).isSome, laws_markMsgS_sh ((laws_markMsgS_F args).getD default)) else none
theorem laws_markMsgS_s_ok : ∀ args r, laws_markMsgS_s args = some (true, r) → SumOk Try.prog tab 27 args r :=
  Base.sum (cfg := laws_markMsgS_c) (F := laws_markMsgS_F) (shr := laws_markMsgS_sh) base laws_markMsgS_c_ok Try.func27 (by kernel_rfl) laws_markMsgS_lo laws_markMsgS_A (by kernel_rfl) [[.dead]] [[(.dr t_impl_Msg)]] (by kernel_rfl) fun args h => by
    have q := laws_markMsgS_e ((rd args 0).L) ((rd args 1).I)
    rw [show [(V.dr t_impl_Msg ((rd args 0).L)), (vi ((rd args 1).I))] = args from h] at q
    exact q
def laws_heldByteS_c : Cfg := ⟨tab, sumsOf [], fun _ => false, fun f => (look [] f).getD [], false, fun _ => false⟩
theorem laws_heldByteS_c_ok : SumsOk Try.prog tab laws_heldByteS_c.sums := sums_nil
def laws_heldByteS_l2_F (st : St) : Option (Nat × Int × Int) := laws_heldByteS_l2 ((((((sv st 0).L).length : Nat) : Int) - ((sv st 2).I)).toNat + 1) ((sv st 0).L) ((sv st 1).I) ((sv st 2).I)
def laws_heldByteS_l2_ps (r_ : Nat × Int × Int) : List (Ex × St) := [(Ex.ret, (⟨[(1, (vi r_.2.1)), (4, (vi r_.2.2))], [], 0, []⟩ : St)), ((Ex.exit 0), (⟨[(1, (vi r_.2.1)), (4, V.dead)], [], 0, []⟩ : St))]
def laws_heldByteS_l2_ss : SS := ⟨[(0, (.one (.inl t_byte))), (1, (.one (.int .i64))), (5, (.one (.int .i64)))], [], 0, []⟩
def laws_heldByteS_l2_e : LE := ⟨2, laws_heldByteS_l2_ss, fun st => Out.tst (laws_heldByteS_l2_F st).isSome (brs ((fun r_ => r_.1) ((laws_heldByteS_l2_F st).getD default)) 0 (laws_heldByteS_l2_ps ((laws_heldByteS_l2_F st).getD default)))⟩
def laws_heldByteS_L : Loops := ⟨fun k => (look [(2, [0, 1, 5])] k).getD [], fun k => (look [] k).getD [], fun k => (look [(2, [1, 4])] k).getD [], runL [laws_heldByteS_l2_e]⟩
theorem laws_heldByteS_l2_ok (k_ : Nat) : ∀ (a0 : List V) (k1 : Int) (i5 : Int), Agr id (fun r_ => pick (r_.1) 0 (laws_heldByteS_l2_ps r_)) (laws_heldByteS_l2 k_ a0 k1 i5) (rounds laws_heldByteS_c laws_heldByteS_L ((loopsIn (bodyOf Try.f101)).getD 0 .skip) k_ (⟨[(0, (V.inl t_byte a0)), (1, (vi k1)), (5, (vi i5))], [], 0, []⟩ : St)) := by
  induction k_ with
  | zero => intros; exact A0
  | succ k_ ih =>
    intro a0 k1 i5
    have h : rounds laws_heldByteS_c laws_heldByteS_L ((loopsIn (bodyOf Try.f101)).getD 0 .skip) (k_ + 1) (⟨[(0, (V.inl t_byte a0)), (1, (vi k1)), (5, (vi i5))], [], 0, []⟩ : St) = (bif (decide (i5 < (ln a0))) then bif (idxOk i5 a0.length) then bif (!(decide ((gi (rd a0 i5.toNat) 0) = (IntKind.u8.wrap k1)))) then some (Ex.ret, (⟨[(1, (vi k1)), (4, (vi (-1)))], [], 0, []⟩ : St)) else rounds laws_heldByteS_c laws_heldByteS_L ((loopsIn (bodyOf Try.f101)).getD 0 .skip) k_ (⟨[(0, (V.inl t_byte a0)), (1, (vi (w6 (k1 + 1)))), (5, (vi (w6 (i5 + 1))))], [], 0, []⟩ : St) else none else some ((Ex.exit 0), (⟨[(1, (vi k1)), (4, V.dead)], [], 0, []⟩ : St))) := by kernel_rfl
    rw [h, laws_heldByteS_l2]
    clear h
    repeat' (first | exact A0 | refine A1 ?_ ?_ | refine A2 fun _ => ?_ | refine A3 fun _ => ?_ | exact A4 (by kernel_rfl) | exact ih _ _ _)
theorem laws_heldByteS_lo : LoopsOk laws_heldByteS_c laws_heldByteS_L (bodyOf Try.f101) := by
  refine GoodAll.ok (l := [laws_heldByteS_l2_e]) ?_ rfl
  refine GoodAll.cons 0 (by kernel_rfl) ?_ ?_
  · exact good_of (key := 2) (ss := laws_heldByteS_l2_ss) (F := laws_heldByteS_l2_F) (ix := fun r_ => r_.1) (ps := laws_heldByteS_l2_ps) (fun st => (((((sv st 0).L).length : Nat) : Int) - ((sv st 2).I)).toNat + 1) fun st h => by
      have q := laws_heldByteS_l2_ok ((((((sv st 0).L).length : Nat) : Int) - ((sv st 2).I)).toNat + 1) ((sv st 0).L) ((sv st 1).I) ((sv st 2).I)
      rw [show (⟨[(0, (V.inl t_byte ((sv st 0).L))), (1, (vi ((sv st 1).I))), (5, (vi ((sv st 2).I)))], [], 0, []⟩ : St) = st from h] at q
      exact q
  exact GoodAll.nil
def laws_heldByteS_sh (r_ : Int) : V × List V := ((vi r_), [])
theorem laws_heldByteS_e (a : List V) (k : Int) : Agr (wkF [[.dead]] []) laws_heldByteS_sh (laws_heldByteS a k) (evalFn laws_heldByteS_c laws_heldByteS_L Try.f101 [(V.inl t_byte a), (vi k)]) := by
  have h : evalFn laws_heldByteS_c laws_heldByteS_L Try.f101 [(V.inl t_byte a), (vi k)] = (rcall (laws_heldByteS_l2 (((ln a) - 0).toNat + 1) a k 0) fun r192 => bif (Nat.beq r192.1 0) then some ((vi r192.2.2), []) else some ((vi r192.2.1), [])) := by kernel_rfl
  rw [h, laws_heldByteS]
  clear h
  repeat' (first | exact A0 | refine A1 ?_ ?_ | refine A2 fun _ => ?_ | refine A3 fun _ => ?_ | exact A4 (by kernel_rfl))
def laws_heldByteS_A : List S2 := [(.one (.inl t_byte)), (.one (.int .i64))]
def laws_heldByteS_F (args : List V) : Option (Int) := laws_heldByteS ((rd args 0).L) ((rd args 1).I)
def laws_heldByteS_s (args : List V) : Option (Bool × (V × List V)) := bif argsOk laws_heldByteS_A args then some ((laws_heldByteS_F args).isSome, laws_heldByteS_sh ((laws_heldByteS_F args).getD default)) else none
theorem laws_heldByteS_s_ok : ∀ args r, laws_heldByteS_s args = some (true, r) → SumOk Try.prog tab 101 args r :=
  Base.sum (cfg := laws_heldByteS_c) (F := laws_heldByteS_F) (shr := laws_heldByteS_sh) base laws_heldByteS_c_ok Try.func101 (by kernel_rfl) laws_heldByteS_lo laws_heldByteS_A (by kernel_rfl) [[.dead]] [] (by kernel_rfl) fun args h => by
    have q := laws_heldByteS_e ((rd args 0).L) ((rd args 1).I)
    rw [show [(V.inl t_byte ((rd args 0).L)), (vi ((rd args 1).I))] = args from h] at q
    exact q
def laws_heldItemS_c : Cfg := ⟨tab, sumsOf [(101, laws_heldByteS_s)], fun _ => false, fun f => (look [(101, [some t_byte, none])] f).getD [], false, fun _ => false⟩
theorem laws_heldItemS_c_ok : SumsOk Try.prog tab laws_heldItemS_c.sums := sums_cons f101_en laws_heldByteS_s_ok (sums_nil)
def laws_heldItemS_l2_F (st : St) : Option (Nat × Int × Int) := laws_heldItemS_l2 ((((((sv st 0).L).length : Nat) : Int) - ((sv st 2).I)).toNat + 1) ((sv st 0).L) ((sv st 1).I) ((sv st 2).I)
def laws_heldItemS_l2_ps (r_ : Nat × Int × Int) : List (Ex × St) := [(Ex.ret, (⟨[(1, (vi r_.2.1)), (4, (vi r_.2.2))], [], 0, []⟩ : St)), ((Ex.exit 0), (⟨[(1, (vi r_.2.1)), (4, V.dead)], [], 0, []⟩ : St))]
def laws_heldItemS_l2_ss : SS := ⟨[(0, (.one (.inl t_impl_Item))), (1, (.one (.int .i64))), (5, (.one (.int .i64)))], [], 0, []⟩
def laws_heldItemS_l2_e : LE := ⟨2, laws_heldItemS_l2_ss, fun st => Out.tst (laws_heldItemS_l2_F st).isSome (brs ((fun r_ => r_.1) ((laws_heldItemS_l2_F st).getD default)) 0 (laws_heldItemS_l2_ps ((laws_heldItemS_l2_F st).getD default)))⟩
def laws_heldItemS_L : Loops := ⟨fun k => (look [(2, [0, 1, 5])] k).getD [], fun k => (look [] k).getD [], fun k => (look [(2, [1, 4])] k).getD [], runL [laws_heldItemS_l2_e]⟩
set_option maxRecDepth 100000 in
theorem laws_heldItemS_l2_ok (k_ : Nat) : ∀ (a0 : List V) (k1 : Int) (i5 : Int), Agr id (fun r_ => pick (r_.1) 0 (laws_heldItemS_l2_ps r_)) (laws_heldItemS_l2 k_ a0 k1 i5) (rounds laws_heldItemS_c laws_heldItemS_L ((loopsIn (bodyOf Try.f54)).getD 0 .skip) k_ (⟨[(0, (V.inl t_impl_Item a0)), (1, (vi k1)), (5, (vi i5))], [], 0, []⟩ : St)) := by
  induction k_ with
  | zero => intros; exact A0
  | succ k_ ih =>
    intro a0 k1 i5
    have h : rounds laws_heldItemS_c laws_heldItemS_L ((loopsIn (bodyOf Try.f54)).getD 0 .skip) (k_ + 1) (⟨[(0, (V.inl t_impl_Item a0)), (1, (vi k1)), (5, (vi i5))], [], 0, []⟩ : St) = (bif (decide (i5 < (ln a0))) then bif (idxOk i5 a0.length) then bif (!(decide ((gi (rd a0 i5.toNat) 0) = k1))) then some (Ex.ret, (⟨[(1, (vi k1)), (4, (vi (-1)))], [], 0, []⟩ : St)) else bif (idxOk i5 a0.length) then bif (!(decide ((gi (rd a0 i5.toNat) 1) = (w6 (k1 + 1))))) then some (Ex.ret, (⟨[(1, (vi (w6 (k1 + 1)))), (4, (vi (-1)))], [], 0, []⟩ : St)) else bif (idxOk i5 a0.length) then bif (!(decide ((gi (rd a0 i5.toNat) 2) = (w6 ((w6 (k1 + 1)) + 1))))) then some (Ex.ret, (⟨[(1, (vi (w6 ((w6 (k1 + 1)) + 1)))), (4, (vi (-1)))], [], 0, []⟩ : St)) else bif (idxOk i5 a0.length) then bif (!(decide ((gi (rd a0 i5.toNat) 3) = (w6 ((w6 ((w6 (k1 + 1)) + 1)) + 1))))) then some (Ex.ret, (⟨[(1, (vi (w6 ((w6 ((w6 (k1 + 1)) + 1)) + 1)))), (4, (vi (-1)))], [], 0, []⟩ : St)) else bif (idxOk i5 a0.length) then rcall (laws_heldByteS (gl (rd a0 i5.toNat) 4) (w6 ((w6 ((w6 ((w6 (k1 + 1)) + 1)) + 1)) + 1))) fun r193 => bif (decide (r193 < 0)) then some (Ex.ret, (⟨[(1, (vi r193)), (4, (vi (-1)))], [], 0, []⟩ : St)) else bif (idxOk i5 a0.length) then rcall (laws_heldByteS (gl (rd a0 i5.toNat) 5) r193) fun r194 => bif (decide (r194 < 0)) then some (Ex.ret, (⟨[(1, (vi r194)), (4, (vi (-1)))], [], 0, []⟩ : St)) else bif (idxOk i5 a0.length) then bif (!(decide ((gi (rd a0 i5.toNat) 6) = r194))) then some (Ex.ret, (⟨[(1, (vi r194)), (4, (vi (-1)))], [], 0, []⟩ : St)) else rounds laws_heldItemS_c laws_heldItemS_L ((loopsIn (bodyOf Try.f54)).getD 0 .skip) k_ (⟨[(0, (V.inl t_impl_Item a0)), (1, (vi (w6 (r194 + 1)))), (5, (vi (w6 (i5 + 1))))], [], 0, []⟩ : St) else none else none else none else none else none else none else none else some ((Ex.exit 0), (⟨[(1, (vi k1)), (4, V.dead)], [], 0, []⟩ : St))) := by kernel_rfl
    rw [h, laws_heldItemS_l2]
    clear h
    repeat' (first | exact A0 | refine A1 ?_ ?_ | refine A2 fun _ => ?_ | refine A3 fun _ => ?_ | exact A4 (by kernel_rfl) | exact ih _ _ _)
theorem laws_heldItemS_lo : LoopsOk laws_heldItemS_c laws_heldItemS_L (bodyOf Try.f54) := by
  refine GoodAll.ok (l := [laws_heldItemS_l2_e]) ?_ rfl
  refine GoodAll.cons 0 (by kernel_rfl) ?_ ?_
  · exact good_of (key := 2) (ss := laws_heldItemS_l2_ss) (F := laws_heldItemS_l2_F) (ix := fun r_ => r_.1) (ps := laws_heldItemS_l2_ps) (fun st => (((((sv st 0).L).length : Nat) : Int) - ((sv st 2).I)).toNat + 1) fun st h => by
      have q := laws_heldItemS_l2_ok ((((((sv st 0).L).length : Nat) : Int) - ((sv st 2).I)).toNat + 1) ((sv st 0).L) ((sv st 1).I) ((sv st 2).I)
      rw [show (⟨[(0, (V.inl t_impl_Item ((sv st 0).L))), (1, (vi ((sv st 1).I))), (5, (vi ((sv st 2).I)))], [], 0, []⟩ : St) = st from h] at q
      exact q
  exact GoodAll.nil
def laws_heldItemS_sh (r_ : Int) : V × List V := ((vi r_), [])
theorem laws_heldItemS_e (a : List V) (k : Int) : Agr (wkF [[.dead]] []) laws_heldItemS_sh (laws_heldItemS a k) (evalFn laws_heldItemS_c laws_heldItemS_L Try.f54 [(V.inl t_impl_Item a), (vi k)]) := by
  have h : evalFn laws_heldItemS_c laws_heldItemS_L Try.f54 [(V.inl t_impl_Item a), (vi k)] = (rcall (laws_heldItemS_l2 (((ln a) - 0).toNat + 1) a k 0) fun r195 => bif (Nat.beq r195.1 0) then some ((vi r195.2.2), []) else some ((vi r195.2.1), [])) := by kernel_rfl
  rw [h, laws_heldItemS]
  clear h
  repeat' (first | exact A0 | refine A1 ?_ ?_ | refine A2 fun _ => ?_ | refine A3 fun _ => ?_ | exact A4 (by kernel_rfl))
def laws_heldItemS_A : List S2 := [(.one (.inl t_impl_Item)), (.one (.int .i64))]
def laws_heldItemS_F (args : List V) : Option (Int) := laws_heldItemS ((rd args 0).L) ((rd args 1).I)
def laws_heldItemS_s (args : List V) : Option (Bool × (V × List V)) := bif argsOk laws_heldItemS_A args then some ((laws_heldItemS_F args).isSome, laws_heldItemS_sh ((laws_heldItemS_F args).getD default)) else none
theorem laws_heldItemS_s_ok : ∀ args r, laws_heldItemS_s args = some (true, r) → SumOk Try.prog tab 54 args r :=
  Base.sum (cfg := laws_heldItemS_c) (F := laws_heldItemS_F) (shr := laws_heldItemS_sh) base laws_heldItemS_c_ok Try.func54 (by kernel_rfl) laws_heldItemS_lo laws_heldItemS_A (by kernel_rfl) [[.dead]] [] (by kernel_rfl) fun args h => by
    have q := laws_heldItemS_e ((rd args 0).L) ((rd args 1).I)
    rw [show [(V.inl t_impl_Item ((rd args 0).L)), (vi ((rd args 1).I))] = args from h] at q
    exact q
def laws_heldBoolS_c : Cfg := ⟨tab, sumsOf [], fun _ => false, fun f => (look [] f).getD [], false, fun _ => false⟩
theorem laws_heldBoolS_c_ok : SumsOk Try.prog tab laws_heldBoolS_c.sums := sums_nil
def laws_heldBoolS_l2_F (st : St) : Option (Nat × Int × Int) := laws_heldBoolS_l2 ((((((sv st 0).L).length : Nat) : Int) - ((sv st 2).I)).toNat + 1) ((sv st 0).L) ((sv st 1).I) ((sv st 2).I)
def laws_heldBoolS_l2_ps (r_ : Nat × Int × Int) : List (Ex × St) := [(Ex.ret, (⟨[(1, (vi r_.2.1)), (4, (vi r_.2.2))], [], 0, []⟩ : St)), ((Ex.exit 0), (⟨[(1, (vi r_.2.1)), (4, V.dead)], [], 0, []⟩ : St))]
def laws_heldBoolS_l2_ss : SS := ⟨[(0, (.one (.inl t_bool))), (1, (.one (.int .i64))), (5, (.one (.int .i64)))], [], 0, []⟩
def laws_heldBoolS_l2_e : LE := ⟨2, laws_heldBoolS_l2_ss, fun st => Out.tst (laws_heldBoolS_l2_F st).isSome (brs ((fun r_ => r_.1) ((laws_heldBoolS_l2_F st).getD default)) 0 (laws_heldBoolS_l2_ps ((laws_heldBoolS_l2_F st).getD default)))⟩
def laws_heldBoolS_L : Loops := ⟨fun k => (look [(2, [0, 1, 5])] k).getD [], fun k => (look [] k).getD [], fun k => (look [(2, [1, 4])] k).getD [], runL [laws_heldBoolS_l2_e]⟩
theorem laws_heldBoolS_l2_ok (k_ : Nat) : ∀ (a0 : List V) (k1 : Int) (i5 : Int), Agr id (fun r_ => pick (r_.1) 0 (laws_heldBoolS_l2_ps r_)) (laws_heldBoolS_l2 k_ a0 k1 i5) (rounds laws_heldBoolS_c laws_heldBoolS_L ((loopsIn (bodyOf Try.f55)).getD 0 .skip) k_ (⟨[(0, (V.inl t_bool a0)), (1, (vi k1)), (5, (vi i5))], [], 0, []⟩ : St)) := by
  induction k_ with
  | zero => intros; exact A0
  | succ k_ ih =>
    intro a0 k1 i5
    have h : rounds laws_heldBoolS_c laws_heldBoolS_L ((loopsIn (bodyOf Try.f55)).getD 0 .skip) (k_ + 1) (⟨[(0, (V.inl t_bool a0)), (1, (vi k1)), (5, (vi i5))], [], 0, []⟩ : St) = (bif (decide (i5 < (ln a0))) then bif (idxOk i5 a0.length) then bif (!((gb (rd a0 i5.toNat) 0) == (decide ((k1.tmod 3) = 0)))) then some (Ex.ret, (⟨[(1, (vi k1)), (4, (vi (-1)))], [], 0, []⟩ : St)) else rounds laws_heldBoolS_c laws_heldBoolS_L ((loopsIn (bodyOf Try.f55)).getD 0 .skip) k_ (⟨[(0, (V.inl t_bool a0)), (1, (vi (w6 (k1 + 1)))), (5, (vi (w6 (i5 + 1))))], [], 0, []⟩ : St) else none else some ((Ex.exit 0), (⟨[(1, (vi k1)), (4, V.dead)], [], 0, []⟩ : St))) := by kernel_rfl
    rw [h, laws_heldBoolS_l2]
    clear h
    repeat' (first | exact A0 | refine A1 ?_ ?_ | refine A2 fun _ => ?_ | refine A3 fun _ => ?_ | exact A4 (by kernel_rfl) | exact ih _ _ _)
theorem laws_heldBoolS_lo : LoopsOk laws_heldBoolS_c laws_heldBoolS_L (bodyOf Try.f55) := by
  refine GoodAll.ok (l := [laws_heldBoolS_l2_e]) ?_ rfl
  refine GoodAll.cons 0 (by kernel_rfl) ?_ ?_
  · exact good_of (key := 2) (ss := laws_heldBoolS_l2_ss) (F := laws_heldBoolS_l2_F) (ix := fun r_ => r_.1) (ps := laws_heldBoolS_l2_ps) (fun st => (((((sv st 0).L).length : Nat) : Int) - ((sv st 2).I)).toNat + 1) fun st h => by
      have q := laws_heldBoolS_l2_ok ((((((sv st 0).L).length : Nat) : Int) - ((sv st 2).I)).toNat + 1) ((sv st 0).L) ((sv st 1).I) ((sv st 2).I)
      rw [show (⟨[(0, (V.inl t_bool ((sv st 0).L))), (1, (vi ((sv st 1).I))), (5, (vi ((sv st 2).I)))], [], 0, []⟩ : St) = st from h] at q
      exact q
  exact GoodAll.nil
def laws_heldBoolS_sh (r_ : Int) : V × List V := ((vi r_), [])
theorem laws_heldBoolS_e (a : List V) (k : Int) : Agr (wkF [[.dead]] []) laws_heldBoolS_sh (laws_heldBoolS a k) (evalFn laws_heldBoolS_c laws_heldBoolS_L Try.f55 [(V.inl t_bool a), (vi k)]) := by
  have h : evalFn laws_heldBoolS_c laws_heldBoolS_L Try.f55 [(V.inl t_bool a), (vi k)] = (rcall (laws_heldBoolS_l2 (((ln a) - 0).toNat + 1) a k 0) fun r197 => bif (Nat.beq r197.1 0) then some ((vi r197.2.2), []) else some ((vi r197.2.1), [])) := by kernel_rfl
  rw [h, laws_heldBoolS]
  clear h
  repeat' (first | exact A0 | refine A1 ?_ ?_ | refine A2 fun _ => ?_ | refine A3 fun _ => ?_ | exact A4 (by kernel_rfl))
def laws_heldBoolS_A : List S2 := [(.one (.inl t_bool)), (.one (.int .i64))]
def laws_heldBoolS_F (args : List V) : Option (Int) := laws_heldBoolS ((rd args 0).L) ((rd args 1).I)
def laws_heldBoolS_s (args : List V) : Option (Bool × (V × List V)) := bif argsOk laws_heldBoolS_A args then some ((laws_heldBoolS_F args).isSome, laws_heldBoolS_sh ((laws_heldBoolS_F args).getD default)) else none
theorem laws_heldBoolS_s_ok : ∀ args r, laws_heldBoolS_s args = some (true, r) → SumOk Try.prog tab 55 args r :=
  Base.sum (cfg := laws_heldBoolS_c) (F := laws_heldBoolS_F) (shr := laws_heldBoolS_sh) base laws_heldBoolS_c_ok Try.func55 (by kernel_rfl) laws_heldBoolS_lo laws_heldBoolS_A (by kernel_rfl) [[.dead]] [] (by kernel_rfl) fun args h => by
    have q := laws_heldBoolS_e ((rd args 0).L) ((rd args 1).I)
    rw [show [(V.inl t_bool ((rd args 0).L)), (vi ((rd args 1).I))] = args from h] at q
    exact q
def laws_heldIntS_c : Cfg := ⟨tab, sumsOf [], fun _ => false, fun f => (look [] f).getD [], false, fun _ => false⟩
theorem laws_heldIntS_c_ok : SumsOk Try.prog tab laws_heldIntS_c.sums := sums_nil
def laws_heldIntS_l2_F (st : St) : Option (Nat × Int × Int) := laws_heldIntS_l2 ((((((sv st 0).L).length : Nat) : Int) - ((sv st 2).I)).toNat + 1) ((sv st 0).L) ((sv st 1).I) ((sv st 2).I)
def laws_heldIntS_l2_ps (r_ : Nat × Int × Int) : List (Ex × St) := [(Ex.ret, (⟨[(1, (vi r_.2.1)), (4, (vi r_.2.2))], [], 0, []⟩ : St)), ((Ex.exit 0), (⟨[(1, (vi r_.2.1)), (4, V.dead)], [], 0, []⟩ : St))]
def laws_heldIntS_l2_ss : SS := ⟨[(0, (.one (.inl t_int'))), (1, (.one (.int .i64))), (5, (.one (.int .i64)))], [], 0, []⟩
def laws_heldIntS_l2_e : LE := ⟨2, laws_heldIntS_l2_ss, fun st => Out.tst (laws_heldIntS_l2_F st).isSome (brs ((fun r_ => r_.1) ((laws_heldIntS_l2_F st).getD default)) 0 (laws_heldIntS_l2_ps ((laws_heldIntS_l2_F st).getD default)))⟩
def laws_heldIntS_L : Loops := ⟨fun k => (look [(2, [0, 1, 5])] k).getD [], fun k => (look [] k).getD [], fun k => (look [(2, [1, 4])] k).getD [], runL [laws_heldIntS_l2_e]⟩
theorem laws_heldIntS_l2_ok (k_ : Nat) : ∀ (a0 : List V) (k1 : Int) (i5 : Int), Agr id (fun r_ => pick (r_.1) 0 (laws_heldIntS_l2_ps r_)) (laws_heldIntS_l2 k_ a0 k1 i5) (rounds laws_heldIntS_c laws_heldIntS_L ((loopsIn (bodyOf Try.f56)).getD 0 .skip) k_ (⟨[(0, (V.inl t_int' a0)), (1, (vi k1)), (5, (vi i5))], [], 0, []⟩ : St)) := by
  induction k_ with
  | zero => intros; exact A0
  | succ k_ ih =>
    intro a0 k1 i5
    have h : rounds laws_heldIntS_c laws_heldIntS_L ((loopsIn (bodyOf Try.f56)).getD 0 .skip) (k_ + 1) (⟨[(0, (V.inl t_int' a0)), (1, (vi k1)), (5, (vi i5))], [], 0, []⟩ : St) = (bif (decide (i5 < (ln a0))) then bif (idxOk i5 a0.length) then bif (!(decide ((gi (rd a0 i5.toNat) 0) = k1))) then some (Ex.ret, (⟨[(1, (vi k1)), (4, (vi (-1)))], [], 0, []⟩ : St)) else rounds laws_heldIntS_c laws_heldIntS_L ((loopsIn (bodyOf Try.f56)).getD 0 .skip) k_ (⟨[(0, (V.inl t_int' a0)), (1, (vi (w6 (k1 + 1)))), (5, (vi (w6 (i5 + 1))))], [], 0, []⟩ : St) else none else some ((Ex.exit 0), (⟨[(1, (vi k1)), (4, V.dead)], [], 0, []⟩ : St))) := by kernel_rfl
    rw [h, laws_heldIntS_l2]
    clear h
    repeat' (first | exact A0 | refine A1 ?_ ?_ | refine A2 fun _ => ?_ | refine A3 fun _ => ?_ | exact A4 (by kernel_rfl) | exact ih _ _ _)
theorem laws_heldIntS_lo : LoopsOk laws_heldIntS_c laws_heldIntS_L (bodyOf Try.f56) := by
  refine GoodAll.ok (l := [laws_heldIntS_l2_e]) ?_ rfl
  refine GoodAll.cons 0 (by kernel_rfl) ?_ ?_
  · exact good_of (key := 2) (ss := laws_heldIntS_l2_ss) (F := laws_heldIntS_l2_F) (ix := fun r_ => r_.1) (ps := laws_heldIntS_l2_ps) (fun st => (((((sv st 0).L).length : Nat) : Int) - ((sv st 2).I)).toNat + 1) fun st h => by
      have q := laws_heldIntS_l2_ok ((((((sv st 0).L).length : Nat) : Int) - ((sv st 2).I)).toNat + 1) ((sv st 0).L) ((sv st 1).I) ((sv st 2).I)
      rw [show (⟨[(0, (V.inl t_int' ((sv st 0).L))), (1, (vi ((sv st 1).I))), (5, (vi ((sv st 2).I)))], [], 0, []⟩ : St) = st from h] at q
      exact q
  exact GoodAll.nil
def laws_heldIntS_sh (r_ : Int) : V × List V := ((vi r_), [])
theorem laws_heldIntS_e (a : List V) (k : Int) : Agr (wkF [[.dead]] []) laws_heldIntS_sh (laws_heldIntS a k) (evalFn laws_heldIntS_c laws_heldIntS_L Try.f56 [(V.inl t_int' a), (vi k)]) := by
  have h : evalFn laws_heldIntS_c laws_heldIntS_L Try.f56 [(V.inl t_int' a), (vi k)] = (rcall (laws_heldIntS_l2 (((ln a) - 0).toNat + 1) a k 0) fun r199 => bif (Nat.beq r199.1 0) then some ((vi r199.2.2), []) else some ((vi r199.2.1), [])) := by kernel_rfl
  rw [h, laws_heldIntS]
  clear h
  repeat' (first | exact A0 | refine A1 ?_ ?_ | refine A2 fun _ => ?_ | refine A3 fun _ => ?_ | exact A4 (by kernel_rfl))
def laws_heldIntS_A : List S2 := [(.one (.inl t_int')), (.one (.int .i64))]
def laws_heldIntS_F (args : List V) : Option (Int) := laws_heldIntS ((rd args 0).L) ((rd args 1).I)
def laws_heldIntS_s (args : List V) : Option (Bool × (V × List V)) := bif argsOk laws_heldIntS_A args then some ((laws_heldIntS_F args).isSome, laws_heldIntS_sh ((laws_heldIntS_F args).getD default)) else none
theorem laws_heldIntS_s_ok : ∀ args r, laws_heldIntS_s args = some (true, r) → SumOk Try.prog tab 56 args r :=
  Base.sum (cfg := laws_heldIntS_c) (F := laws_heldIntS_F) (shr := laws_heldIntS_sh) base laws_heldIntS_c_ok Try.func56 (by kernel_rfl) laws_heldIntS_lo laws_heldIntS_A (by kernel_rfl) [[.dead]] [] (by kernel_rfl) fun args h => by
    have q := laws_heldIntS_e ((rd args 0).L) ((rd args 1).I)
    rw [show [(V.inl t_int' ((rd args 0).L)), (vi ((rd args 1).I))] = args from h] at q
    exact q
def laws_heldNode_c : Cfg := ⟨tab, sumsOf [(54, laws_heldItemS_s), (55, laws_heldBoolS_s), (56, laws_heldIntS_s)], fun _ => false, fun f => (look [(54, [some t_impl_Item, none]), (55, [some t_bool, none]), (56, [some t_int', none])] f).getD [], false, fun _ => false⟩
theorem laws_heldNode_c_ok : SumsOk Try.prog tab laws_heldNode_c.sums := sums_cons f54_en laws_heldItemS_s_ok (sums_cons f55_en laws_heldBoolS_s_ok (sums_cons f56_en laws_heldIntS_s_ok (sums_nil)))
abbrev laws_heldNode_L : Loops := noL
def laws_heldNode_sh (r_ : Int) : V × List V := ((vi r_), [])
set_option maxRecDepth 100000 in
theorem laws_heldNode_e (a : V) (k : Int) : Agr (wkF [[.dead]] []) laws_heldNode_sh (laws_heldNode a k) (evalFn laws_heldNode_c laws_heldNode_L Try.f14 [(n_impl_Node a), (vi k)]) := by
  have h : evalFn laws_heldNode_c laws_heldNode_L Try.f14 [(n_impl_Node a), (vi k)] = (rcall (laws_heldItemS (gl a 3) k) fun r196 => bif (decide (r196 < 0)) then some ((vi (-1)), []) else rcall (laws_heldBoolS (gl a 8) r196) fun r198 => bif (decide (r198 < 0)) then some ((vi (-1)), []) else rcall (laws_heldIntS (gl a 9) r198) fun r200 => bif (decide (r200 < 0)) then some ((vi (-1)), []) else rcall (laws_heldIntS (gl a 10) r200) fun r201 => bif (decide (r201 < 0)) then some ((vi (-1)), []) else some ((vi r201), [])) := by kernel_rfl
  rw [h, laws_heldNode]
  clear h
  repeat' (first | exact A0 | refine A1 ?_ ?_ | refine A2 fun _ => ?_ | refine A3 fun _ => ?_ | exact A4 (by kernel_rfl))
def laws_heldNode_A : List S2 := [(.agg q13), (.one (.int .i64))]
def laws_heldNode_F (args : List V) : Option (Int) := laws_heldNode (rd args 0) ((rd args 1).I)
def laws_heldNode_s (args : List V) : Option (Bool × (V × List V)) := bif argsOk laws_heldNode_A args then some ((laws_heldNode_F args).isSome, laws_heldNode_sh ((laws_heldNode_F args).getD default)) else none
theorem laws_heldNode_s_ok : ∀ args r, laws_heldNode_s args = some (true, r) → SumOk Try.prog tab 14 args r :=
  Base.sum (cfg := laws_heldNode_c) (F := laws_heldNode_F) (shr := laws_heldNode_sh) base laws_heldNode_c_ok Try.func14 (by kernel_rfl) noLo laws_heldNode_A (by kernel_rfl) [[.dead]] [] (by kernel_rfl) fun args h => by
    have q := laws_heldNode_e (rd args 0) ((rd args 1).I)
    rw [show [(n_impl_Node (rd args 0)), (vi ((rd args 1).I))] = args from h] at q
    exact q
def laws_heldMsgS_c : Cfg := ⟨tab, sumsOf [(54, laws_heldItemS_s)], fun _ => false, fun f => (look [(54, [some t_impl_Item, none])] f).getD [], false, fun _ => false⟩
theorem laws_heldMsgS_c_ok : SumsOk Try.prog tab laws_heldMsgS_c.sums := sums_cons f54_en laws_heldItemS_s_ok (sums_nil)
def laws_heldMsgS_l2_F (st : St) : Option (Nat × Int × Int) := laws_heldMsgS_l2 ((((((sv st 0).L).length : Nat) : Int) - ((sv st 2).I)).toNat + 1) ((sv st 0).L) ((sv st 1).I) ((sv st 2).I)
def laws_heldMsgS_l2_ps (r_ : Nat × Int × Int) : List (Ex × St) := [(Ex.ret, (⟨[(1, (vi r_.2.1)), (4, (vi r_.2.2))], [], 0, []⟩ : St)), ((Ex.exit 0), (⟨[(1, (vi r_.2.1)), (4, V.dead)], [], 0, []⟩ : St))]
def laws_heldMsgS_l2_ss : SS := ⟨[(0, (.one (.inl t_impl_Msg))), (1, (.one (.int .i64))), (5, (.one (.int .i64)))], [], 0, []⟩
def laws_heldMsgS_l2_e : LE := ⟨2, laws_heldMsgS_l2_ss, fun st => Out.tst (laws_heldMsgS_l2_F st).isSome (brs ((fun r_ => r_.1) ((laws_heldMsgS_l2_F st).getD default)) 0 (laws_heldMsgS_l2_ps ((laws_heldMsgS_l2_F st).getD default)))⟩
def laws_heldMsgS_L : Loops := ⟨fun k => (look [(2, [0, 1, 5])] k).getD [], fun k => (look [] k).getD [], fun k => (look [(2, [1, 4])] k).getD [], runL [laws_heldMsgS_l2_e]⟩
set_option maxRecDepth 100000 in
theorem laws_heldMsgS_l2_ok (k_ : Nat) : ∀ (a0 : List V) (k1 : Int) (i5 : Int), Agr id (fun r_ => pick (r_.1) 0 (laws_heldMsgS_l2_ps r_)) (laws_heldMsgS_l2 k_ a0 k1 i5) (rounds laws_heldMsgS_c laws_heldMsgS_L ((loopsIn (bodyOf Try.f28)).getD 0 .skip) k_ (⟨[(0, (V.inl t_impl_Msg a0)), (1, (vi k1)), (5, (vi i5))], [], 0, []⟩ : St)) := by
  induction k_ with
  | zero => intros; exact A0
  | succ k_ ih =>
    intro a0 k1 i5
    have h : rounds laws_heldMsgS_c laws_heldMsgS_L ((loopsIn (bodyOf Try.f28)).getD 0 .skip) (k_ + 1) (⟨[(0, (V.inl t_impl_Msg a0)), (1, (vi k1)), (5, (vi i5))], [], 0, []⟩ : St) = (bif (decide (i5 < (ln a0))) then bif (idxOk i5 a0.length) then bif (!(decide ((gi (rd a0 i5.toNat) 0) = k1))) then some (Ex.ret, (⟨[(1, (vi k1)), (4, (vi (-1)))], [], 0, []⟩ : St)) else bif (idxOk i5 a0.length) then bif (!(decide ((gi (rd a0 i5.toNat) 1) = (w6 (k1 + 1))))) then some (Ex.ret, (⟨[(1, (vi (w6 (k1 + 1)))), (4, (vi (-1)))], [], 0, []⟩ : St)) else bif (idxOk i5 a0.length) then bif (!(decide ((gi (rd a0 i5.toNat) 2) = (w6 ((w6 (k1 + 1)) + 1))))) then some (Ex.ret, (⟨[(1, (vi (w6 ((w6 (k1 + 1)) + 1)))), (4, (vi (-1)))], [], 0, []⟩ : St)) else bif (idxOk i5 a0.length) then bif (!(decide ((gi (rd a0 i5.toNat) 3) = (w6 ((w6 ((w6 (k1 + 1)) + 1)) + 1))))) then some (Ex.ret, (⟨[(1, (vi (w6 ((w6 ((w6 (k1 + 1)) + 1)) + 1)))), (4, (vi (-1)))], [], 0, []⟩ : St)) else bif (idxOk i5 a0.length) then bif (!(decide ((gi (rd a0 i5.toNat) 4) = (w6 ((w6 ((w6 ((w6 (k1 + 1)) + 1)) + 1)) + 1))))) then some (Ex.ret, (⟨[(1, (vi (w6 ((w6 ((w6 ((w6 (k1 + 1)) + 1)) + 1)) + 1)))), (4, (vi (-1)))], [], 0, []⟩ : St)) else bif (idxOk i5 a0.length) then bif (!(decide ((gi (rd a0 i5.toNat) 5) = (w6 ((w6 ((w6 ((w6 ((w6 (k1 + 1)) + 1)) + 1)) + 1)) + 1))))) then some (Ex.ret, (⟨[(1, (vi (w6 ((w6 ((w6 ((w6 ((w6 (k1 + 1)) + 1)) + 1)) + 1)) + 1)))), (4, (vi (-1)))], [], 0, []⟩ : St)) else bif (idxOk i5 a0.length) then rcall (laws_heldItemS (gl (rd a0 i5.toNat) 6) (w6 ((w6 ((w6 ((w6 ((w6 ((w6 (k1 + 1)) + 1)) + 1)) + 1)) + 1)) + 1))) fun r203 => bif (decide (r203 < 0)) then some (Ex.ret, (⟨[(1, (vi r203)), (4, (vi (-1)))], [], 0, []⟩ : St)) else bif (idxOk i5 a0.length) then bif (!(decide ((gi (rd a0 i5.toNat) 7) = r203))) then some (Ex.ret, (⟨[(1, (vi r203)), (4, (vi (-1)))], [], 0, []⟩ : St)) else bif (idxOk i5 a0.length) then bif (!((gb (rd a0 i5.toNat) 8) == (decide (((w6 (r203 + 1)).tmod 3) = 0)))) then some (Ex.ret, (⟨[(1, (vi (w6 (r203 + 1)))), (4, (vi (-1)))], [], 0, []⟩ : St)) else rounds laws_heldMsgS_c laws_heldMsgS_L ((loopsIn (bodyOf Try.f28)).getD 0 .skip) k_ (⟨[(0, (V.inl t_impl_Msg a0)), (1, (vi (w6 ((w6 (r203 + 1)) + 1)))), (5, (vi (w6 (i5 + 1))))], [], 0, []⟩ : St) else none else none else none else none else none else none else none else none else none else some ((Ex.exit 0), (⟨[(1, (vi k1)), (4, V.dead)], [], 0, []⟩ : St))) := by kernel_rfl
    rw [h, laws_heldMsgS_l2]
    clear h
    repeat' (first | exact A0 | refine A1 ?_ ?_ | refine A2 fun _ => ?_ | refine A3 fun _ => ?_ | exact A4 (by kernel_rfl) | exact ih _ _ _)
theorem laws_heldMsgS_lo : LoopsOk laws_heldMsgS_c laws_heldMsgS_L (bodyOf Try.f28) := by
  refine GoodAll.ok (l := [laws_heldMsgS_l2_e]) ?_ rfl
  refine GoodAll.cons 0 (by kernel_rfl) ?_ ?_
  · exact good_of (key := 2) (ss := laws_heldMsgS_l2_ss) (F := laws_heldMsgS_l2_F) (ix := fun r_ => r_.1) (ps := laws_heldMsgS_l2_ps) (fun st => (((((sv st 0).L).length : Nat) : Int) - ((sv st 2).I)).toNat + 1) fun st h => by
      have q := laws_heldMsgS_l2_ok ((((((sv st 0).L).length : Nat) : Int) - ((sv st 2).I)).toNat + 1) ((sv st 0).L) ((sv st 1).I) ((sv st 2).I)
      rw [show (⟨[(0, (V.inl t_impl_Msg ((sv st 0).L))), (1, (vi ((sv st 1).I))), (5, (vi ((sv st 2).I)))], [], 0, []⟩ : St) = st from h] at q
      exact q
  exact GoodAll.nil
def laws_heldMsgS_sh (r_ : Int) : V × List V := ((vi r_), [])
theorem laws_heldMsgS_e (a : List V) (k : Int) : Agr (wkF [[.dead]] []) laws_heldMsgS_sh (laws_heldMsgS a k) (evalFn laws_heldMsgS_c laws_heldMsgS_L Try.f28 [(V.inl t_impl_Msg a), (vi k)]) := by
  have h : evalFn laws_heldMsgS_c laws_heldMsgS_L Try.f28 [(V.inl t_impl_Msg a), (vi k)] = (rcall (laws_heldMsgS_l2 (((ln a) - 0).toNat + 1) a k 0) fun r204 => bif (Nat.beq r204.1 0) then some ((vi r204.2.2), []) else some ((vi r204.2.1), [])) := by kernel_rfl
  rw [h, laws_heldMsgS]
  clear h
  repeat' (first | exact A0 | refine A1 ?_ ?_ | refine A2 fun _ => ?_ | refine A3 fun _ => ?_ | exact A4 (by kernel_rfl))
def laws_heldMsgS_A : List S2 := [(.one (.inl t_impl_Msg)), (.one (.int .i64))]
def laws_heldMsgS_F (args : List V) : Option (Int) := laws_heldMsgS ((rd args 0).L) ((rd args 1).I)
def laws_heldMsgS_s (args : List V) : Option (Bool × (V × List V)) := bif argsOk laws_heldMsgS_A args then some ((laws_heldMsgS_F args).isSome, laws_heldMsgS_sh ((laws_heldMsgS_F args).getD default)) else none
theorem laws_heldMsgS_s_ok : ∀ args r, laws_heldMsgS_s args = some (true, r) → SumOk Try.prog tab 28 args r :=
  Base.sum (cfg := laws_heldMsgS_c) (F := laws_heldMsgS_F) (shr := laws_heldMsgS_sh) base laws_heldMsgS_c_ok Try.func28 (by kernel_rfl) laws_heldMsgS_lo laws_heldMsgS_A (by kernel_rfl) [[.dead]] [] (by kernel_rfl) fun args h => by
    have q := laws_heldMsgS_e ((rd args 0).L) ((rd args 1).I)
    rw [show [(V.inl t_impl_Msg ((rd args 0).L)), (vi ((rd args 1).I))] = args from h] at q
    exact q
end Go.Eng.R
open Go Go.Eng Go.Proofs
namespace Go.Eng.R
def laws_FnExactTick_c : Cfg := ⟨tab, sumsOf [(8, laws_szNode_s), (10, laws_toNode_s), (29, spec_Tick_s), (30, impl_Tick_s), (12, laws_eqNode_s), (24, laws_eqMsgS_s), (13, laws_markNode_s), (27, laws_markMsgS_s), (14, laws_heldNode_s), (28, laws_heldMsgS_s)], fun f => Nat.beq f 13 || Nat.beq f 27, fun f => (look [(8, [none, none]), (10, [none]), (29, [none, none]), (30, [none, none]), (12, [none, none]), (24, [some t_impl_Msg, some t_impl_Msg]), (13, [none, none]), (27, [some t_impl_Msg, none]), (14, [none, none]), (28, [some t_impl_Msg, none])] f).getD [], true, fun _ => false⟩
theorem laws_FnExactTick_c_ok : SumsOk Try.prog tab laws_FnExactTick_c.sums := sums_cons f8_en laws_szNode_s_ok (sums_cons f10_en laws_toNode_s_ok (sums_cons f29_en spec_Tick_s_ok (sums_cons f30_en impl_Tick_s_ok (sums_cons f12_en laws_eqNode_s_ok (sums_cons f24_en laws_eqMsgS_s_ok (sums_cons f13_en laws_markNode_s_ok (sums_cons f27_en laws_markMsgS_s_ok (sums_cons f14_en laws_heldNode_s_ok (sums_cons f28_en laws_heldMsgS_s_ok (sums_nil))))))))))
abbrev laws_FnExactTick_L : Loops := noL
def laws_FnExactTick_sh (r_ : Bool) : V × List V := ((V.bool r_), [])
set_option maxRecDepth 100000 in
theorem laws_FnExactTick_e (aN : V) (aServers : Int) : Agr (wkF [[.dead]] []) laws_FnExactTick_sh (laws_FnExactTick aN aServers) (evalFn laws_FnExactTick_c laws_FnExactTick_L Try.f6 [(n_laws_Node aN), (vi aServers)]) := by
  have h : evalFn laws_FnExactTick_c laws_FnExactTick_L Try.f6 [(n_laws_Node aN), (vi aServers)] = (rcall (laws_szNode (n_laws_Node aN) 1048576) fun r3 => bif (decide (r3 < 0)) then some ((V.bool true), []) else rcall (laws_toNode (n_laws_Node aN)) fun r17 => rcall (spec_Tick (n_impl_Node r17) aServers) fun r80 => rcall (laws_toNode (n_laws_Node aN)) fun r81 => rcall (impl_Tick (n_impl_Node r81) aServers) fun r138 => rcall (laws_eqNode (n_impl_Node r138.1) (n_impl_Node r80.1)) fun r152 => bif (!r152) then some ((V.bool false), []) else rcall (laws_eqMsgS r138.2 r80.2) fun r156 => bif (!r156) then some ((V.bool false), []) else rcall (laws_toNode (n_laws_Node aN)) fun r157 => rcall (laws_eqNode (n_impl_Node r81) (n_impl_Node r157)) fun r158 => bif (!r158) then some ((V.bool false), []) else rcall (laws_markNode (n_impl_Node r81) 1) fun r176 => bif (decide (r176.1 < 0)) then some ((V.bool false), []) else rcall (laws_eqNode (n_impl_Node r138.1) (n_impl_Node r80.1)) fun r177 => bif (!r177) then some ((V.bool false), []) else rcall (laws_eqMsgS r138.2 r80.2) fun r178 => bif (!r178) then some ((V.bool false), []) else rcall (laws_markNode (n_impl_Node r138.1) 1) fun r179 => rcall (laws_markMsgS r138.2 r179.1) fun r191 => rcall (laws_heldNode (V.agg [(vi (gi r138.1 0)), (vi (gi r138.1 1)), (vi (gi r138.1 2)), (V.inl t_impl_Item r179.2.1), (vi (gi r138.1 4)), (vi (gi r138.1 5)), (vi (gi r138.1 6)), (vi (gi r138.1 7)), (V.inl t_bool r179.2.2.1), (V.inl t_int' r179.2.2.2.1), (V.inl t_int' r179.2.2.2.2)]) 1) fun r202 => bif (decide (r202 < 0)) then some ((V.bool false), []) else rcall (laws_heldMsgS r191.2 r202) fun r205 => bif (decide (r205 < 0)) then some ((V.bool false), []) else bif (!(decide (r205 = r191.1))) then some ((V.bool false), []) else rcall (laws_toNode (n_laws_Node aN)) fun r206 => rcall (impl_Tick (n_impl_Node r206) aServers) fun r207 => rcall (laws_eqNode (n_impl_Node r207.1) (n_impl_Node r80.1)) fun r208 => bif (!r208) then some ((V.bool false), []) else rcall (laws_eqMsgS r207.2 r80.2) fun r209 => bif (!r209) then some ((V.bool false), []) else rcall (laws_heldNode (V.agg [(vi (gi r138.1 0)), (vi (gi r138.1 1)), (vi (gi r138.1 2)), (V.inl t_impl_Item r179.2.1), (vi (gi r138.1 4)), (vi (gi r138.1 5)), (vi (gi r138.1 6)), (vi (gi r138.1 7)), (V.inl t_bool r179.2.2.1), (V.inl t_int' r179.2.2.2.1), (V.inl t_int' r179.2.2.2.2)]) 1) fun r210 => bif (decide (r210 < 0)) then some ((V.bool false), []) else rcall (laws_heldMsgS r191.2 r210) fun r211 => bif (decide (r211 < 0)) then some ((V.bool false), []) else bif (!(decide (r211 = r191.1))) then some ((V.bool false), []) else some ((V.bool true), [])) := by kernel_rfl
  rw [h, laws_FnExactTick]
  clear h
  repeat' (first | exact A0 | refine A1 ?_ ?_ | refine A2 fun _ => ?_ | refine A3 fun _ => ?_ | exact A4 (by kernel_rfl))
def laws_FnExactTick_A : List S2 := [(.agg q3), (.one (.int .i64))]
def laws_FnExactTick_F (args : List V) : Option (Bool) := laws_FnExactTick (rd args 0) ((rd args 1).I)
def laws_FnExactTick_s (args : List V) : Option (Bool × (V × List V)) := bif argsOk laws_FnExactTick_A args then some ((laws_FnExactTick_F args).isSome, laws_FnExactTick_sh ((laws_FnExactTick_F args).getD default)) else none
theorem laws_FnExactTick_s_ok : ∀ args r, laws_FnExactTick_s args = some (true, r) → SumOk Try.prog tab 6 args r :=
  Base.sum (cfg := laws_FnExactTick_c) (F := laws_FnExactTick_F) (shr := laws_FnExactTick_sh) base laws_FnExactTick_c_ok Try.func6 (by kernel_rfl) noLo laws_FnExactTick_A (by kernel_rfl) [[.dead]] [] (by kernel_rfl) fun args h => by
    have q := laws_FnExactTick_e (rd args 0) ((rd args 1).I)
    rw [show [(n_laws_Node (rd args 0)), (vi ((rd args 1).I))] = args from h] at q
    exact q
end Go.Eng.R
open Go Go.Eng
namespace Go.Eng.R
def M_byte (x : V) (k : Int) : Prop := gi x 0 = IntKind.u8.wrap k
def M_int (x : V) (k : Int) : Prop := gi x 0 = k
def M_bool (x : V) (k : Int) : Prop := gb x 0 = decide (k.tmod 3 = 0)
def cnv_byte (x : V) : V := .int .u8 (gi x 0)
def cnv_int (x : V) : V := .int .i64 (gi x 0)
def cnv_bool (x : V) : V := .bool (gb x 0)
theorem cnv_int_W (x : V) (h : W_int x) : W_int (cnv_int x) := h
theorem cnv_int_z (x : V) : z0 (cnv_int x) = z0 x := rfl
theorem cnv_int_c (x : V) : c1 (cnv_int x) = c1 x := rfl
theorem cnv_bool_W (x : V) (h : W_bool x) : W_bool (cnv_bool x) := h
theorem cnv_bool_z (x : V) : z0 (cnv_bool x) = z0 x := rfl
theorem cnv_bool_c (x : V) : c1 (cnv_bool x) = c1 x := rfl
theorem cnv_byte_W (x : V) (h : W_byte x) : W_byte (cnv_byte x) := h
theorem cnv_byte_z (x : V) : z0 (cnv_byte x) = z0 x := rfl
theorem cnv_byte_c (x : V) : c1 (cnv_byte x) = c1 x := rfl
def W_Item (x : V) : Prop := I64 (gi x 0) ∧ I64 (gi x 1) ∧ I64 (gi x 2) ∧ I64 (gi x 3) ∧ LW W_byte (gl x 4) ∧ LW W_byte (gl x 5) ∧ I64 (gi x 6)
def z_Item (x : V) : Nat := zS z0 (gl x 4) + zS z0 (gl x 5)
def c_Item (x : V) : Nat := 1 + 1 + 1 + 1 + sumL c1 (gl x 4) + sumL c1 (gl x 5) + 1
def ct_Item (x : V) : Nat := sumL c1 (gl x 4) + sumL c1 (gl x 5)
def M_Item (x : V) (k : Int) : Prop := gi x 0 = k ∧ gi x 1 = k + 1 ∧ gi x 2 = k + 1 + 1 ∧ gi x 3 = k + 1 + 1 + 1 ∧ MS c1 M_byte (gl x 4) (k + 1 + 1 + 1 + 1) ∧ MS c1 M_byte (gl x 5) (k + 1 + 1 + 1 + 1 + ((sumL c1 (gl x 4) : Nat) : Int)) ∧ gi x 6 = k + 1 + 1 + 1 + 1 + ((sumL c1 (gl x 4) : Nat) : Int) + ((sumL c1 (gl x 5) : Nat) : Int)
def cnv_Item (x : V) : V := V.agg [(V.int .i64 (gi x 0)), (V.int .i64 (gi x 1)), (V.int .i64 (gi x 2)), (V.int .i64 (gi x 3)), V.inl t_byte ((gl x 4).map cnv_byte), V.inl t_byte ((gl x 5).map cnv_byte), (V.int .i64 (gi x 6))]
theorem cnv_Item_W (x : V) (h : W_Item x) : W_Item (cnv_Item x) := ⟨h.1, h.2.1, h.2.2.1, h.2.2.2.1, LW.map (h := cnv_byte) cnv_byte_W (h.2.2.2.2.1), LW.map (h := cnv_byte) cnv_byte_W (h.2.2.2.2.2.1), h.2.2.2.2.2.2⟩
theorem cnv_Item_z (x : V) : z_Item (cnv_Item x) = z_Item x := by
  simp only [z_Item, show gl (cnv_Item x) 4 = (gl x 4).map cnv_byte from rfl, show gl (cnv_Item x) 5 = (gl x 5).map cnv_byte from rfl, zS_map (h := cnv_byte) cnv_byte_z (gl x 4), zS_map (h := cnv_byte) cnv_byte_z (gl x 5)]
theorem cnv_Item_c (x : V) : c_Item (cnv_Item x) = c_Item x := by
  simp only [c_Item, show gl (cnv_Item x) 4 = (gl x 4).map cnv_byte from rfl, show gl (cnv_Item x) 5 = (gl x 5).map cnv_byte from rfl, sumL_map (h := cnv_byte) cnv_byte_c (gl x 4), sumL_map (h := cnv_byte) cnv_byte_c (gl x 5)]
theorem cnv_Item_ct (x : V) : ct_Item (cnv_Item x) = ct_Item x := by
  simp only [ct_Item, show gl (cnv_Item x) 4 = (gl x 4).map cnv_byte from rfl, show gl (cnv_Item x) 5 = (gl x 5).map cnv_byte from rfl, sumL_map (h := cnv_byte) cnv_byte_c (gl x 4), sumL_map (h := cnv_byte) cnv_byte_c (gl x 5)]
theorem c_Item_cz (x : V) : c_Item x ≤ 5 * (1 + z_Item x) := by
  have h0 : sumL c1 (gl x 4) ≤ 1 * zS z0 (gl x 4) := by rw [sumL_c1, zS_z0]; omega
  have h1 : sumL c1 (gl x 5) ≤ 1 * zS z0 (gl x 5) := by rw [sumL_c1, zS_z0]; omega
  simp only [c_Item, z_Item]; omega
theorem ct_Item_cz (x : V) : ct_Item x ≤ 5 * z_Item x := by
  have h0 : sumL c1 (gl x 4) ≤ 1 * zS z0 (gl x 4) := by rw [sumL_c1, zS_z0]; omega
  have h1 : sumL c1 (gl x 5) ≤ 1 * zS z0 (gl x 5) := by rw [sumL_c1, zS_z0]; omega
  simp only [ct_Item, z_Item]; omega
def W_Node (x : V) : Prop := I64 (gi x 0) ∧ I64 (gi x 1) ∧ I64 (gi x 2) ∧ LW W_Item (gl x 3) ∧ I64 (gi x 4) ∧ I64 (gi x 5) ∧ I64 (gi x 6) ∧ I64 (gi x 7) ∧ LW W_bool (gl x 8) ∧ LW W_int (gl x 9) ∧ LW W_int (gl x 10)
def z_Node (x : V) : Nat := zS z_Item (gl x 3) + zS z0 (gl x 8) + zS z0 (gl x 9) + zS z0 (gl x 10)
def c_Node (x : V) : Nat := 1 + 1 + 1 + sumL c_Item (gl x 3) + 1 + 1 + 1 + 1 + sumL c1 (gl x 8) + sumL c1 (gl x 9) + sumL c1 (gl x 10)
def ct_Node (x : V) : Nat := sumL c_Item (gl x 3) + sumL c1 (gl x 8) + sumL c1 (gl x 9) + sumL c1 (gl x 10)
def M_Node (x : V) (k : Int) : Prop := gi x 0 = k ∧ gi x 1 = k + 1 ∧ gi x 2 = k + 1 + 1 ∧ MS c_Item M_Item (gl x 3) (k + 1 + 1 + 1) ∧ gi x 4 = k + 1 + 1 + 1 + ((sumL c_Item (gl x 3) : Nat) : Int) ∧ gi x 5 = k + 1 + 1 + 1 + ((sumL c_Item (gl x 3) : Nat) : Int) + 1 ∧ gi x 6 = k + 1 + 1 + 1 + ((sumL c_Item (gl x 3) : Nat) : Int) + 1 + 1 ∧ gi x 7 = k + 1 + 1 + 1 + ((sumL c_Item (gl x 3) : Nat) : Int) + 1 + 1 + 1 ∧ MS c1 M_bool (gl x 8) (k + 1 + 1 + 1 + ((sumL c_Item (gl x 3) : Nat) : Int) + 1 + 1 + 1 + 1) ∧ MS c1 M_int (gl x 9) (k + 1 + 1 + 1 + ((sumL c_Item (gl x 3) : Nat) : Int) + 1 + 1 + 1 + 1 + ((sumL c1 (gl x 8) : Nat) : Int)) ∧ MS c1 M_int (gl x 10) (k + 1 + 1 + 1 + ((sumL c_Item (gl x 3) : Nat) : Int) + 1 + 1 + 1 + 1 + ((sumL c1 (gl x 8) : Nat) : Int) + ((sumL c1 (gl x 9) : Nat) : Int))
def cnv_Node (x : V) : V := V.agg [(V.int .i64 (gi x 0)), (V.int .i64 (gi x 1)), (V.int .i64 (gi x 2)), V.inl t_impl_Item ((gl x 3).map cnv_Item), (V.int .i64 (gi x 4)), (V.int .i64 (gi x 5)), (V.int .i64 (gi x 6)), (V.int .i64 (gi x 7)), V.inl t_bool ((gl x 8).map cnv_bool), V.inl t_int' ((gl x 9).map cnv_int), V.inl t_int' ((gl x 10).map cnv_int)]
theorem cnv_Node_W (x : V) (h : W_Node x) : W_Node (cnv_Node x) := ⟨h.1, h.2.1, h.2.2.1, LW.map (h := cnv_Item) cnv_Item_W (h.2.2.2.1), h.2.2.2.2.1, h.2.2.2.2.2.1, h.2.2.2.2.2.2.1, h.2.2.2.2.2.2.2.1, LW.map (h := cnv_bool) cnv_bool_W (h.2.2.2.2.2.2.2.2.1), LW.map (h := cnv_int) cnv_int_W (h.2.2.2.2.2.2.2.2.2.1), LW.map (h := cnv_int) cnv_int_W (h.2.2.2.2.2.2.2.2.2.2)⟩
theorem cnv_Node_z (x : V) : z_Node (cnv_Node x) = z_Node x := by
  simp only [z_Node, show gl (cnv_Node x) 3 = (gl x 3).map cnv_Item from rfl, show gl (cnv_Node x) 8 = (gl x 8).map cnv_bool from rfl, show gl (cnv_Node x) 9 = (gl x 9).map cnv_int from rfl, show gl (cnv_Node x) 10 = (gl x 10).map cnv_int from rfl, zS_map (h := cnv_Item) cnv_Item_z (gl x 3), zS_map (h := cnv_bool) cnv_bool_z (gl x 8), zS_map (h := cnv_int) cnv_int_z (gl x 9), zS_map (h := cnv_int) cnv_int_z (gl x 10)]
theorem cnv_Node_c (x : V) : c_Node (cnv_Node x) = c_Node x := by
  simp only [c_Node, show gl (cnv_Node x) 3 = (gl x 3).map cnv_Item from rfl, show gl (cnv_Node x) 8 = (gl x 8).map cnv_bool from rfl, show gl (cnv_Node x) 9 = (gl x 9).map cnv_int from rfl, show gl (cnv_Node x) 10 = (gl x 10).map cnv_int from rfl, sumL_map (h := cnv_Item) cnv_Item_c (gl x 3), sumL_map (h := cnv_bool) cnv_bool_c (gl x 8), sumL_map (h := cnv_int) cnv_int_c (gl x 9), sumL_map (h := cnv_int) cnv_int_c (gl x 10)]
theorem cnv_Node_ct (x : V) : ct_Node (cnv_Node x) = ct_Node x := by
  simp only [ct_Node, show gl (cnv_Node x) 3 = (gl x 3).map cnv_Item from rfl, show gl (cnv_Node x) 8 = (gl x 8).map cnv_bool from rfl, show gl (cnv_Node x) 9 = (gl x 9).map cnv_int from rfl, show gl (cnv_Node x) 10 = (gl x 10).map cnv_int from rfl, sumL_map (h := cnv_Item) cnv_Item_c (gl x 3), sumL_map (h := cnv_bool) cnv_bool_c (gl x 8), sumL_map (h := cnv_int) cnv_int_c (gl x 9), sumL_map (h := cnv_int) cnv_int_c (gl x 10)]
theorem c_Node_cz (x : V) : c_Node x ≤ 7 * (1 + z_Node x) := by
  have h0 : sumL c_Item (gl x 3) ≤ 5 * zS z_Item (gl x 3) := sumL_mul 5 fun y _ => c_Item_cz y
  have h1 : sumL c1 (gl x 8) ≤ 1 * zS z0 (gl x 8) := by rw [sumL_c1, zS_z0]; omega
  have h2 : sumL c1 (gl x 9) ≤ 1 * zS z0 (gl x 9) := by rw [sumL_c1, zS_z0]; omega
  have h3 : sumL c1 (gl x 10) ≤ 1 * zS z0 (gl x 10) := by rw [sumL_c1, zS_z0]; omega
  simp only [c_Node, z_Node]; omega
theorem ct_Node_cz (x : V) : ct_Node x ≤ 7 * z_Node x := by
  have h0 : sumL c_Item (gl x 3) ≤ 5 * zS z_Item (gl x 3) := sumL_mul 5 fun y _ => c_Item_cz y
  have h1 : sumL c1 (gl x 8) ≤ 1 * zS z0 (gl x 8) := by rw [sumL_c1, zS_z0]; omega
  have h2 : sumL c1 (gl x 9) ≤ 1 * zS z0 (gl x 9) := by rw [sumL_c1, zS_z0]; omega
  have h3 : sumL c1 (gl x 10) ≤ 1 * zS z0 (gl x 10) := by rw [sumL_c1, zS_z0]; omega
  simp only [ct_Node, z_Node]; omega
def W_Op (x : V) : Prop := I64 (gi x 0) ∧ LW W_byte (gl x 1) ∧ LW W_byte (gl x 2) ∧ I64 (gi x 3)
def z_Op (x : V) : Nat := zS z0 (gl x 1) + zS z0 (gl x 2)
def c_Op (x : V) : Nat := 1 + sumL c1 (gl x 1) + sumL c1 (gl x 2) + 1
def ct_Op (x : V) : Nat := sumL c1 (gl x 1) + sumL c1 (gl x 2)
def M_Op (x : V) (k : Int) : Prop := gi x 0 = k ∧ MS c1 M_byte (gl x 1) (k + 1) ∧ MS c1 M_byte (gl x 2) (k + 1 + ((sumL c1 (gl x 1) : Nat) : Int)) ∧ gi x 3 = k + 1 + ((sumL c1 (gl x 1) : Nat) : Int) + ((sumL c1 (gl x 2) : Nat) : Int)
def cnv_Op (x : V) : V := V.agg [(V.int .i64 (gi x 0)), V.inl t_byte ((gl x 1).map cnv_byte), V.inl t_byte ((gl x 2).map cnv_byte), (V.int .i64 (gi x 3))]
theorem cnv_Op_W (x : V) (h : W_Op x) : W_Op (cnv_Op x) := ⟨h.1, LW.map (h := cnv_byte) cnv_byte_W (h.2.1), LW.map (h := cnv_byte) cnv_byte_W (h.2.2.1), h.2.2.2⟩
theorem cnv_Op_z (x : V) : z_Op (cnv_Op x) = z_Op x := by
  simp only [z_Op, show gl (cnv_Op x) 1 = (gl x 1).map cnv_byte from rfl, show gl (cnv_Op x) 2 = (gl x 2).map cnv_byte from rfl, zS_map (h := cnv_byte) cnv_byte_z (gl x 1), zS_map (h := cnv_byte) cnv_byte_z (gl x 2)]
theorem cnv_Op_c (x : V) : c_Op (cnv_Op x) = c_Op x := by
  simp only [c_Op, show gl (cnv_Op x) 1 = (gl x 1).map cnv_byte from rfl, show gl (cnv_Op x) 2 = (gl x 2).map cnv_byte from rfl, sumL_map (h := cnv_byte) cnv_byte_c (gl x 1), sumL_map (h := cnv_byte) cnv_byte_c (gl x 2)]
theorem cnv_Op_ct (x : V) : ct_Op (cnv_Op x) = ct_Op x := by
  simp only [ct_Op, show gl (cnv_Op x) 1 = (gl x 1).map cnv_byte from rfl, show gl (cnv_Op x) 2 = (gl x 2).map cnv_byte from rfl, sumL_map (h := cnv_byte) cnv_byte_c (gl x 1), sumL_map (h := cnv_byte) cnv_byte_c (gl x 2)]
theorem c_Op_cz (x : V) : c_Op x ≤ 2 * (1 + z_Op x) := by
  have h0 : sumL c1 (gl x 1) ≤ 1 * zS z0 (gl x 1) := by rw [sumL_c1, zS_z0]; omega
  have h1 : sumL c1 (gl x 2) ≤ 1 * zS z0 (gl x 2) := by rw [sumL_c1, zS_z0]; omega
  simp only [c_Op, z_Op]; omega
theorem ct_Op_cz (x : V) : ct_Op x ≤ 2 * z_Op x := by
  have h0 : sumL c1 (gl x 1) ≤ 1 * zS z0 (gl x 1) := by rw [sumL_c1, zS_z0]; omega
  have h1 : sumL c1 (gl x 2) ≤ 1 * zS z0 (gl x 2) := by rw [sumL_c1, zS_z0]; omega
  simp only [ct_Op, z_Op]; omega
def W_Cmd (x : V) : Prop := I64 (gi x 0) ∧ I64 (gi x 1) ∧ I64 (gi x 2) ∧ LW W_byte (gl x 3) ∧ LW W_byte (gl x 4) ∧ I64 (gi x 5)
def z_Cmd (x : V) : Nat := zS z0 (gl x 3) + zS z0 (gl x 4)
def c_Cmd (x : V) : Nat := 1 + 1 + 1 + sumL c1 (gl x 3) + sumL c1 (gl x 4) + 1
def ct_Cmd (x : V) : Nat := sumL c1 (gl x 3) + sumL c1 (gl x 4)
def M_Cmd (x : V) (k : Int) : Prop := gi x 0 = k ∧ gi x 1 = k + 1 ∧ gi x 2 = k + 1 + 1 ∧ MS c1 M_byte (gl x 3) (k + 1 + 1 + 1) ∧ MS c1 M_byte (gl x 4) (k + 1 + 1 + 1 + ((sumL c1 (gl x 3) : Nat) : Int)) ∧ gi x 5 = k + 1 + 1 + 1 + ((sumL c1 (gl x 3) : Nat) : Int) + ((sumL c1 (gl x 4) : Nat) : Int)
def cnv_Cmd (x : V) : V := V.agg [(V.int .i64 (gi x 0)), (V.int .i64 (gi x 1)), (V.int .i64 (gi x 2)), V.inl t_byte ((gl x 3).map cnv_byte), V.inl t_byte ((gl x 4).map cnv_byte), (V.int .i64 (gi x 5))]
theorem cnv_Cmd_W (x : V) (h : W_Cmd x) : W_Cmd (cnv_Cmd x) := ⟨h.1, h.2.1, h.2.2.1, LW.map (h := cnv_byte) cnv_byte_W (h.2.2.2.1), LW.map (h := cnv_byte) cnv_byte_W (h.2.2.2.2.1), h.2.2.2.2.2⟩
theorem cnv_Cmd_z (x : V) : z_Cmd (cnv_Cmd x) = z_Cmd x := by
  simp only [z_Cmd, show gl (cnv_Cmd x) 3 = (gl x 3).map cnv_byte from rfl, show gl (cnv_Cmd x) 4 = (gl x 4).map cnv_byte from rfl, zS_map (h := cnv_byte) cnv_byte_z (gl x 3), zS_map (h := cnv_byte) cnv_byte_z (gl x 4)]
theorem cnv_Cmd_c (x : V) : c_Cmd (cnv_Cmd x) = c_Cmd x := by
  simp only [c_Cmd, show gl (cnv_Cmd x) 3 = (gl x 3).map cnv_byte from rfl, show gl (cnv_Cmd x) 4 = (gl x 4).map cnv_byte from rfl, sumL_map (h := cnv_byte) cnv_byte_c (gl x 3), sumL_map (h := cnv_byte) cnv_byte_c (gl x 4)]
theorem cnv_Cmd_ct (x : V) : ct_Cmd (cnv_Cmd x) = ct_Cmd x := by
  simp only [ct_Cmd, show gl (cnv_Cmd x) 3 = (gl x 3).map cnv_byte from rfl, show gl (cnv_Cmd x) 4 = (gl x 4).map cnv_byte from rfl, sumL_map (h := cnv_byte) cnv_byte_c (gl x 3), sumL_map (h := cnv_byte) cnv_byte_c (gl x 4)]
theorem c_Cmd_cz (x : V) : c_Cmd x ≤ 4 * (1 + z_Cmd x) := by
  have h0 : sumL c1 (gl x 3) ≤ 1 * zS z0 (gl x 3) := by rw [sumL_c1, zS_z0]; omega
  have h1 : sumL c1 (gl x 4) ≤ 1 * zS z0 (gl x 4) := by rw [sumL_c1, zS_z0]; omega
  simp only [c_Cmd, z_Cmd]; omega
theorem ct_Cmd_cz (x : V) : ct_Cmd x ≤ 4 * z_Cmd x := by
  have h0 : sumL c1 (gl x 3) ≤ 1 * zS z0 (gl x 3) := by rw [sumL_c1, zS_z0]; omega
  have h1 : sumL c1 (gl x 4) ≤ 1 * zS z0 (gl x 4) := by rw [sumL_c1, zS_z0]; omega
  simp only [ct_Cmd, z_Cmd]; omega
def W_Msg (x : V) : Prop := I64 (gi x 0) ∧ I64 (gi x 1) ∧ I64 (gi x 2) ∧ I64 (gi x 3) ∧ I64 (gi x 4) ∧ I64 (gi x 5) ∧ LW W_Item (gl x 6) ∧ I64 (gi x 7) ∧ True
def z_Msg (x : V) : Nat := zS z_Item (gl x 6)
def c_Msg (x : V) : Nat := 1 + 1 + 1 + 1 + 1 + 1 + sumL c_Item (gl x 6) + 1 + 1
def ct_Msg (x : V) : Nat := sumL c_Item (gl x 6)
def M_Msg (x : V) (k : Int) : Prop := gi x 0 = k ∧ gi x 1 = k + 1 ∧ gi x 2 = k + 1 + 1 ∧ gi x 3 = k + 1 + 1 + 1 ∧ gi x 4 = k + 1 + 1 + 1 + 1 ∧ gi x 5 = k + 1 + 1 + 1 + 1 + 1 ∧ MS c_Item M_Item (gl x 6) (k + 1 + 1 + 1 + 1 + 1 + 1) ∧ gi x 7 = k + 1 + 1 + 1 + 1 + 1 + 1 + ((sumL c_Item (gl x 6) : Nat) : Int) ∧ gb x 8 = decide ((k + 1 + 1 + 1 + 1 + 1 + 1 + ((sumL c_Item (gl x 6) : Nat) : Int) + 1).tmod 3 = 0)
def cnv_Msg (x : V) : V := V.agg [(V.int .i64 (gi x 0)), (V.int .i64 (gi x 1)), (V.int .i64 (gi x 2)), (V.int .i64 (gi x 3)), (V.int .i64 (gi x 4)), (V.int .i64 (gi x 5)), V.inl t_impl_Item ((gl x 6).map cnv_Item), (V.int .i64 (gi x 7)), (V.bool (gb x 8))]
theorem cnv_Msg_W (x : V) (h : W_Msg x) : W_Msg (cnv_Msg x) := ⟨h.1, h.2.1, h.2.2.1, h.2.2.2.1, h.2.2.2.2.1, h.2.2.2.2.2.1, LW.map (h := cnv_Item) cnv_Item_W (h.2.2.2.2.2.2.1), h.2.2.2.2.2.2.2.1, h.2.2.2.2.2.2.2.2⟩
theorem cnv_Msg_z (x : V) : z_Msg (cnv_Msg x) = z_Msg x := by
  simp only [z_Msg, show gl (cnv_Msg x) 6 = (gl x 6).map cnv_Item from rfl, zS_map (h := cnv_Item) cnv_Item_z (gl x 6)]
theorem cnv_Msg_c (x : V) : c_Msg (cnv_Msg x) = c_Msg x := by
  simp only [c_Msg, show gl (cnv_Msg x) 6 = (gl x 6).map cnv_Item from rfl, sumL_map (h := cnv_Item) cnv_Item_c (gl x 6)]
theorem cnv_Msg_ct (x : V) : ct_Msg (cnv_Msg x) = ct_Msg x := by
  simp only [ct_Msg, show gl (cnv_Msg x) 6 = (gl x 6).map cnv_Item from rfl, sumL_map (h := cnv_Item) cnv_Item_c (gl x 6)]
theorem c_Msg_cz (x : V) : c_Msg x ≤ 8 * (1 + z_Msg x) := by
  have h0 : sumL c_Item (gl x 6) ≤ 5 * zS z_Item (gl x 6) := sumL_mul 5 fun y _ => c_Item_cz y
  simp only [c_Msg, z_Msg]; omega
theorem ct_Msg_cz (x : V) : ct_Msg x ≤ 8 * z_Msg x := by
  have h0 : sumL c_Item (gl x 6) ≤ 5 * zS z_Item (gl x 6) := sumL_mul 5 fun y _ => c_Item_cz y
  simp only [ct_Msg, z_Msg]; omega
def W_server (x : V) : Prop := I64 (gi x 0) ∧ I64 (gi x 1) ∧ I64 (gi x 2) ∧ LW W_Item (gl x 3) ∧ I64 (gi x 4) ∧ I64 (gi x 5) ∧ I64 (gi x 6) ∧ I64 (gi x 7) ∧ LW W_bool (gl x 8) ∧ LW W_int (gl x 9) ∧ LW W_int (gl x 10) ∧ LW W_Msg (gl x 11)
def z_server (x : V) : Nat := zS z_Item (gl x 3) + zS z0 (gl x 8) + zS z0 (gl x 9) + zS z0 (gl x 10) + zS z_Msg (gl x 11)
def c_server (x : V) : Nat := 1 + 1 + 1 + sumL c_Item (gl x 3) + 1 + 1 + 1 + 1 + sumL c1 (gl x 8) + sumL c1 (gl x 9) + sumL c1 (gl x 10) + sumL c_Msg (gl x 11)
def ct_server (x : V) : Nat := sumL c_Item (gl x 3) + sumL c1 (gl x 8) + sumL c1 (gl x 9) + sumL c1 (gl x 10) + sumL c_Msg (gl x 11)
def M_server (x : V) (k : Int) : Prop := gi x 0 = k ∧ gi x 1 = k + 1 ∧ gi x 2 = k + 1 + 1 ∧ MS c_Item M_Item (gl x 3) (k + 1 + 1 + 1) ∧ gi x 4 = k + 1 + 1 + 1 + ((sumL c_Item (gl x 3) : Nat) : Int) ∧ gi x 5 = k + 1 + 1 + 1 + ((sumL c_Item (gl x 3) : Nat) : Int) + 1 ∧ gi x 6 = k + 1 + 1 + 1 + ((sumL c_Item (gl x 3) : Nat) : Int) + 1 + 1 ∧ gi x 7 = k + 1 + 1 + 1 + ((sumL c_Item (gl x 3) : Nat) : Int) + 1 + 1 + 1 ∧ MS c1 M_bool (gl x 8) (k + 1 + 1 + 1 + ((sumL c_Item (gl x 3) : Nat) : Int) + 1 + 1 + 1 + 1) ∧ MS c1 M_int (gl x 9) (k + 1 + 1 + 1 + ((sumL c_Item (gl x 3) : Nat) : Int) + 1 + 1 + 1 + 1 + ((sumL c1 (gl x 8) : Nat) : Int)) ∧ MS c1 M_int (gl x 10) (k + 1 + 1 + 1 + ((sumL c_Item (gl x 3) : Nat) : Int) + 1 + 1 + 1 + 1 + ((sumL c1 (gl x 8) : Nat) : Int) + ((sumL c1 (gl x 9) : Nat) : Int)) ∧ MS c_Msg M_Msg (gl x 11) (k + 1 + 1 + 1 + ((sumL c_Item (gl x 3) : Nat) : Int) + 1 + 1 + 1 + 1 + ((sumL c1 (gl x 8) : Nat) : Int) + ((sumL c1 (gl x 9) : Nat) : Int) + ((sumL c1 (gl x 10) : Nat) : Int))
def cnv_server (x : V) : V := V.agg [(V.int .i64 (gi x 0)), (V.int .i64 (gi x 1)), (V.int .i64 (gi x 2)), V.inl t_impl_Item ((gl x 3).map cnv_Item), (V.int .i64 (gi x 4)), (V.int .i64 (gi x 5)), (V.int .i64 (gi x 6)), (V.int .i64 (gi x 7)), V.inl t_bool ((gl x 8).map cnv_bool), V.inl t_int' ((gl x 9).map cnv_int), V.inl t_int' ((gl x 10).map cnv_int), V.inl t_impl_Msg ((gl x 11).map cnv_Msg)]
theorem cnv_server_W (x : V) (h : W_server x) : W_server (cnv_server x) := ⟨h.1, h.2.1, h.2.2.1, LW.map (h := cnv_Item) cnv_Item_W (h.2.2.2.1), h.2.2.2.2.1, h.2.2.2.2.2.1, h.2.2.2.2.2.2.1, h.2.2.2.2.2.2.2.1, LW.map (h := cnv_bool) cnv_bool_W (h.2.2.2.2.2.2.2.2.1), LW.map (h := cnv_int) cnv_int_W (h.2.2.2.2.2.2.2.2.2.1), LW.map (h := cnv_int) cnv_int_W (h.2.2.2.2.2.2.2.2.2.2.1), LW.map (h := cnv_Msg) cnv_Msg_W (h.2.2.2.2.2.2.2.2.2.2.2)⟩
theorem cnv_server_z (x : V) : z_server (cnv_server x) = z_server x := by
  simp only [z_server, show gl (cnv_server x) 3 = (gl x 3).map cnv_Item from rfl, show gl (cnv_server x) 8 = (gl x 8).map cnv_bool from rfl, show gl (cnv_server x) 9 = (gl x 9).map cnv_int from rfl, show gl (cnv_server x) 10 = (gl x 10).map cnv_int from rfl, show gl (cnv_server x) 11 = (gl x 11).map cnv_Msg from rfl, zS_map (h := cnv_Item) cnv_Item_z (gl x 3), zS_map (h := cnv_bool) cnv_bool_z (gl x 8), zS_map (h := cnv_int) cnv_int_z (gl x 9), zS_map (h := cnv_int) cnv_int_z (gl x 10), zS_map (h := cnv_Msg) cnv_Msg_z (gl x 11)]
theorem cnv_server_c (x : V) : c_server (cnv_server x) = c_server x := by
  simp only [c_server, show gl (cnv_server x) 3 = (gl x 3).map cnv_Item from rfl, show gl (cnv_server x) 8 = (gl x 8).map cnv_bool from rfl, show gl (cnv_server x) 9 = (gl x 9).map cnv_int from rfl, show gl (cnv_server x) 10 = (gl x 10).map cnv_int from rfl, show gl (cnv_server x) 11 = (gl x 11).map cnv_Msg from rfl, sumL_map (h := cnv_Item) cnv_Item_c (gl x 3), sumL_map (h := cnv_bool) cnv_bool_c (gl x 8), sumL_map (h := cnv_int) cnv_int_c (gl x 9), sumL_map (h := cnv_int) cnv_int_c (gl x 10), sumL_map (h := cnv_Msg) cnv_Msg_c (gl x 11)]
theorem cnv_server_ct (x : V) : ct_server (cnv_server x) = ct_server x := by
  simp only [ct_server, show gl (cnv_server x) 3 = (gl x 3).map cnv_Item from rfl, show gl (cnv_server x) 8 = (gl x 8).map cnv_bool from rfl, show gl (cnv_server x) 9 = (gl x 9).map cnv_int from rfl, show gl (cnv_server x) 10 = (gl x 10).map cnv_int from rfl, show gl (cnv_server x) 11 = (gl x 11).map cnv_Msg from rfl, sumL_map (h := cnv_Item) cnv_Item_c (gl x 3), sumL_map (h := cnv_bool) cnv_bool_c (gl x 8), sumL_map (h := cnv_int) cnv_int_c (gl x 9), sumL_map (h := cnv_int) cnv_int_c (gl x 10), sumL_map (h := cnv_Msg) cnv_Msg_c (gl x 11)]
theorem c_server_cz (x : V) : c_server x ≤ 8 * (1 + z_server x) := by
  have h0 : sumL c_Item (gl x 3) ≤ 5 * zS z_Item (gl x 3) := sumL_mul 5 fun y _ => c_Item_cz y
  have h1 : sumL c1 (gl x 8) ≤ 1 * zS z0 (gl x 8) := by rw [sumL_c1, zS_z0]; omega
  have h2 : sumL c1 (gl x 9) ≤ 1 * zS z0 (gl x 9) := by rw [sumL_c1, zS_z0]; omega
  have h3 : sumL c1 (gl x 10) ≤ 1 * zS z0 (gl x 10) := by rw [sumL_c1, zS_z0]; omega
  have h4 : sumL c_Msg (gl x 11) ≤ 8 * zS z_Msg (gl x 11) := sumL_mul 8 fun y _ => c_Msg_cz y
  simp only [c_server, z_server]; omega
theorem ct_server_cz (x : V) : ct_server x ≤ 8 * z_server x := by
  have h0 : sumL c_Item (gl x 3) ≤ 5 * zS z_Item (gl x 3) := sumL_mul 5 fun y _ => c_Item_cz y
  have h1 : sumL c1 (gl x 8) ≤ 1 * zS z0 (gl x 8) := by rw [sumL_c1, zS_z0]; omega
  have h2 : sumL c1 (gl x 9) ≤ 1 * zS z0 (gl x 9) := by rw [sumL_c1, zS_z0]; omega
  have h3 : sumL c1 (gl x 10) ≤ 1 * zS z0 (gl x 10) := by rw [sumL_c1, zS_z0]; omega
  have h4 : sumL c_Msg (gl x 11) ≤ 8 * zS z_Msg (gl x 11) := sumL_mul 8 fun y _ => c_Msg_cz y
  simp only [ct_server, z_server]; omega
theorem laws_szByteS_ok (a : List V) (left : Int) (ha : LW W_byte a) (h0 : 0 ≤ left) (h1 : left ≤ 1048576) : ∃ r, laws_szByteS a left = r ∧ (r < 0 ∨ (0 ≤ r ∧ r ≤ 1048576 ∧ r + ((zS z0 a : Nat) : Int) = left)) := by
  have hl := ha.1
  unfold laws_szByteS
  rw [wr64' (by omega) (by omega)]
  by_cases h : left - ((a.length : Nat) : Int) < 0
  · exact ⟨-1, by simp [h], .inl (by omega)⟩
  · exact ⟨left - ((a.length : Nat) : Int), by simp [h], .inr ⟨by omega, by omega, by rw [zS_z0]; omega⟩⟩
theorem laws_szOp_ok (x : V) (left : Int) (hx : W_Op x) (h0 : 0 ≤ left) (h1 : left ≤ 1048576) : ∃ r, laws_szOp x left = r ∧ (r < 0 ∨ (0 ≤ r ∧ r ≤ 1048576 ∧ r + ((z_Op x : Nat) : Int) = left)) := by
  unfold laws_szOp
  obtain ⟨r0, e0, q0⟩ := laws_szByteS_ok (gl x 1) left hx.2.1 h0 h1
  simp only [e0, Option.bind_some]
  rcases q0 with q0 | ⟨a0, b0, s0⟩
  · exact ⟨-1, by simp only [show decide (r0 < 0) = true from by simp; omega, cond_true], .inl (by omega)⟩
  simp only [show decide (r0 < 0) = false from by simp; omega, cond_false]
  obtain ⟨r1, e1, q1⟩ := laws_szByteS_ok (gl x 2) r0 hx.2.2.1 a0 b0
  simp only [e1, Option.bind_some]
  rcases q1 with q1 | ⟨a1, b1, s1⟩
  · exact ⟨-1, by simp only [show decide (r1 < 0) = true from by simp; omega, cond_true], .inl (by omega)⟩
  simp only [show decide (r1 < 0) = false from by simp; omega, cond_false]
  exact ⟨r1, rfl, .inr ⟨a1, b1, by simp only [z_Op]; omega⟩⟩
theorem laws_szCmd_ok (x : V) (left : Int) (hx : W_Cmd x) (h0 : 0 ≤ left) (h1 : left ≤ 1048576) : ∃ r, laws_szCmd x left = r ∧ (r < 0 ∨ (0 ≤ r ∧ r ≤ 1048576 ∧ r + ((z_Cmd x : Nat) : Int) = left)) := by
  unfold laws_szCmd
  obtain ⟨r0, e0, q0⟩ := laws_szOp_ok (V.agg [(V.int .i64 (gi x 2)), (V.inl t_byte (gl x 3)), (V.inl t_byte (gl x 4)), (V.int .i64 (gi x 5))]) left ⟨hx.2.2.1, hx.2.2.2.1, hx.2.2.2.2.1, hx.2.2.2.2.2⟩ h0 h1
  simp only [e0, Option.bind_some]
  rcases q0 with q0 | ⟨a0, b0, s0⟩
  · exact ⟨-1, by simp only [show decide (r0 < 0) = true from by simp; omega, cond_true], .inl (by omega)⟩
  simp only [show decide (r0 < 0) = false from by simp; omega, cond_false]
  have s0 : r0 + ((z_Op (V.agg [(V.int .i64 (gi x 2)), (V.inl t_byte (gl x 3)), (V.inl t_byte (gl x 4)), (V.int .i64 (gi x 5))]) : Nat) : Int) = left := s0
  simp only [z_Op, gl_c0, gl_cs] at s0
  exact ⟨r0, rfl, .inr ⟨a0, b0, by simp only [z_Cmd]; omega⟩⟩
theorem laws_szItem_ok (x : V) (left : Int) (hx : W_Item x) (h0 : 0 ≤ left) (h1 : left ≤ 1048576) : ∃ r, laws_szItem x left = r ∧ (r < 0 ∨ (0 ≤ r ∧ r ≤ 1048576 ∧ r + ((z_Item x : Nat) : Int) = left)) := by
  unfold laws_szItem
  obtain ⟨r0, e0, q0⟩ := laws_szCmd_ok (V.agg [(V.int .i64 (gi x 1)), (V.int .i64 (gi x 2)), (V.int .i64 (gi x 3)), (V.inl t_byte (gl x 4)), (V.inl t_byte (gl x 5)), (V.int .i64 (gi x 6))]) left ⟨hx.2.1, hx.2.2.1, hx.2.2.2.1, hx.2.2.2.2.1, hx.2.2.2.2.2.1, hx.2.2.2.2.2.2⟩ h0 h1
  simp only [e0, Option.bind_some]
  rcases q0 with q0 | ⟨a0, b0, s0⟩
  · exact ⟨-1, by simp only [show decide (r0 < 0) = true from by simp; omega, cond_true], .inl (by omega)⟩
  simp only [show decide (r0 < 0) = false from by simp; omega, cond_false]
  have s0 : r0 + ((z_Cmd (V.agg [(V.int .i64 (gi x 1)), (V.int .i64 (gi x 2)), (V.int .i64 (gi x 3)), (V.inl t_byte (gl x 4)), (V.inl t_byte (gl x 5)), (V.int .i64 (gi x 6))]) : Nat) : Int) = left := s0
  simp only [z_Cmd, gl_c0, gl_cs] at s0
  exact ⟨r0, rfl, .inr ⟨a0, b0, by simp only [z_Item]; omega⟩⟩
theorem laws_szItemS_ok (a : List V) (left : Int) (ha : LW W_Item a) (h0 : 0 ≤ left) (h1 : left ≤ 1048576) : ∃ r, laws_szItemS a left = some (r) ∧ (r < 0 ∨ (0 ≤ r ∧ r ≤ 1048576 ∧ r + ((zS z_Item a : Nat) : Int) = left)) := by
  have hl := ha.1
  unfold laws_szItemS
  rw [wr64' (by omega) (by omega)]
  by_cases h : left - ((a.length : Nat) : Int) < 0
  · exact ⟨-1, by simp [h], .inl (by omega)⟩
  rw [show decide (left - ((a.length : Nat) : Int) < 0) = false from by simp; omega, cond_false, fuel_eq]
  have key : (fun q : Option (Nat × Int × Int) => ∃ p, q = some p ∧ ((p.1 = 0 ∧ p.2.2 = -1) ∨ (p.1 = 1 ∧ 0 ≤ p.2.1 ∧ p.2.1 ≤ 1048576 ∧ p.2.1 + ((sumL z_Item a : Nat) : Int) = left - ((a.length : Nat) : Int)))) (laws_szItemS_l5 (a.length + 1) a (left - ((a.length : Nat) : Int)) 0) := by
    refine loop_run0 (F := fun m s i => laws_szItemS_l5 m a s i) (fun i s => 0 ≤ s ∧ s ≤ 1048576 ∧ s + ((sumL z_Item (a.take i) : Nat) : Int) = left - ((a.length : Nat) : Int)) (fun q : Option (Nat × Int × Int) => ∃ p, q = some p ∧ ((p.1 = 0 ∧ p.2.2 = -1) ∨ (p.1 = 1 ∧ 0 ≤ p.2.1 ∧ p.2.1 ≤ 1048576 ∧ p.2.1 + ((sumL z_Item a : Nat) : Int) = left - ((a.length : Nat) : Int)))) ?_ ?_ (s := left - ((a.length : Nat) : Int)) ⟨by omega, by omega, by simp [sumL]⟩
    · intro m i s hi hI
      obtain ⟨r, e, hr⟩ := laws_szItem_ok (n_impl_Item (rd a i)) s (ha.rd hi) hI.1 hI.2.1
      simp only [laws_szItemS_l5, lt_nat hi, idxOk_nat hi, Int.toNat_natCast, cond_true, e, Option.bind_some, wr_succ hi hl]
      rcases hr with hr | ⟨r1, r2, r3⟩
      · exact .inr ⟨_, by rw [show decide (r < 0) = true from by simp [hr], cond_true], .inl ⟨rfl, rfl⟩⟩
      · refine .inl ⟨r, by rw [show decide (r < 0) = false from by simp; omega, cond_false], r1, r2, ?_⟩
        rw [sum_take_succ _ hi]
        have r3 : r + ((z_Item (rd a i) : Nat) : Int) = s := r3
        omega
    · intro m s hI
      refine ⟨(1, s, 0), by simp only [laws_szItemS_l5, lt_self, cond_false], .inr ⟨rfl, hI.1, hI.2.1, ?_⟩⟩
      rw [List.take_length] at hI; exact hI.2.2
  obtain ⟨p, e, hp⟩ := key
  rw [e, Option.bind_some]
  rcases hp with ⟨p1, p2⟩ | ⟨p1, p2, p3, p4⟩
  · exact ⟨_, by rw [p1]; rfl, .inl (by omega)⟩
  · exact ⟨p.2.1, by rw [p1]; rfl, .inr ⟨p2, p3, by simp only [zS]; omega⟩⟩
theorem laws_szBoolS_ok (a : List V) (left : Int) (ha : LW W_bool a) (h0 : 0 ≤ left) (h1 : left ≤ 1048576) : ∃ r, laws_szBoolS a left = r ∧ (r < 0 ∨ (0 ≤ r ∧ r ≤ 1048576 ∧ r + ((zS z0 a : Nat) : Int) = left)) := by
  have hl := ha.1
  unfold laws_szBoolS
  rw [wr64' (by omega) (by omega)]
  by_cases h : left - ((a.length : Nat) : Int) < 0
  · exact ⟨-1, by simp [h], .inl (by omega)⟩
  · exact ⟨left - ((a.length : Nat) : Int), by simp [h], .inr ⟨by omega, by omega, by rw [zS_z0]; omega⟩⟩
theorem laws_szIntS_ok (a : List V) (left : Int) (ha : LW W_int a) (h0 : 0 ≤ left) (h1 : left ≤ 1048576) : ∃ r, laws_szIntS a left = r ∧ (r < 0 ∨ (0 ≤ r ∧ r ≤ 1048576 ∧ r + ((zS z0 a : Nat) : Int) = left)) := by
  have hl := ha.1
  unfold laws_szIntS
  rw [wr64' (by omega) (by omega)]
  by_cases h : left - ((a.length : Nat) : Int) < 0
  · exact ⟨-1, by simp [h], .inl (by omega)⟩
  · exact ⟨left - ((a.length : Nat) : Int), by simp [h], .inr ⟨by omega, by omega, by rw [zS_z0]; omega⟩⟩
theorem laws_szNode_ok (x : V) (left : Int) (hx : W_Node x) (h0 : 0 ≤ left) (h1 : left ≤ 1048576) : ∃ r, laws_szNode x left = some (r) ∧ (r < 0 ∨ (0 ≤ r ∧ r ≤ 1048576 ∧ r + ((z_Node x : Nat) : Int) = left)) := by
  unfold laws_szNode
  obtain ⟨r0, e0, q0⟩ := laws_szItemS_ok (gl x 3) left hx.2.2.2.1 h0 h1
  simp only [e0, Option.bind_some]
  rcases q0 with q0 | ⟨a0, b0, s0⟩
  · exact ⟨-1, by simp only [show decide (r0 < 0) = true from by simp; omega, cond_true], .inl (by omega)⟩
  simp only [show decide (r0 < 0) = false from by simp; omega, cond_false]
  obtain ⟨r1, e1, q1⟩ := laws_szBoolS_ok (gl x 8) r0 hx.2.2.2.2.2.2.2.2.1 a0 b0
  simp only [e1, Option.bind_some]
  rcases q1 with q1 | ⟨a1, b1, s1⟩
  · exact ⟨-1, by simp only [show decide (r1 < 0) = true from by simp; omega, cond_true], .inl (by omega)⟩
  simp only [show decide (r1 < 0) = false from by simp; omega, cond_false]
  obtain ⟨r2, e2, q2⟩ := laws_szIntS_ok (gl x 9) r1 hx.2.2.2.2.2.2.2.2.2.1 a1 b1
  simp only [e2, Option.bind_some]
  rcases q2 with q2 | ⟨a2, b2, s2⟩
  · exact ⟨-1, by simp only [show decide (r2 < 0) = true from by simp; omega, cond_true], .inl (by omega)⟩
  simp only [show decide (r2 < 0) = false from by simp; omega, cond_false]
  obtain ⟨r3, e3, q3⟩ := laws_szIntS_ok (gl x 10) r2 hx.2.2.2.2.2.2.2.2.2.2 a2 b2
  simp only [e3, Option.bind_some]
  rcases q3 with q3 | ⟨a3, b3, s3⟩
  · exact ⟨-1, by simp only [show decide (r3 < 0) = true from by simp; omega, cond_true], .inl (by omega)⟩
  simp only [show decide (r3 < 0) = false from by simp; omega, cond_false]
  exact ⟨r3, rfl, .inr ⟨a3, b3, by simp only [z_Node]; omega⟩⟩
theorem laws_toByteS_ok (a : List V) (ha : LW W_byte a) (hz : zS z0 a ≤ 1048576) : laws_toByteS a = some (a.map cnv_byte) := by
  have hl := ha.1
  have hn : a.length ≤ 1048576 := by simp only [zS] at hz; omega
  unfold laws_toByteS
  rw [fuel_eq, show (((a.length : Nat) : Int)).toNat = a.length from by omega, roomy_of (n := a.length) (by omega) hl]
  simp only [Int.natCast_nonneg, decide_true, Bool.and_self, cond_true]
  rw [to_loop (F := fun m r i => laws_toByteS_l3 m a i r) (f := cnv_byte) ?_ ?_ (by simp)]
  · rfl
  · intro m i r hi hr
    have hr' : i < r.length := by omega
    simp only [laws_toByteS_l3, lt_nat hi, idxOk_nat hi, idxOk_nat hr', Int.toNat_natCast, Nat.zero_add, cond_true, Option.bind_some, wr_succ hi hl]
    rfl
  · intro m r
    simp only [laws_toByteS_l3, lt_self, cond_false]
theorem laws_toOp_ok (x : V) (hx : W_Op x) (hz : z_Op x ≤ 1048576) : laws_toOp x = some (cnv_Op x) := by
  simp only [z_Op] at hz
  unfold laws_toOp
  rw [laws_toByteS_ok (gl x 1) hx.2.1 (by omega)]
  simp only [Option.bind_some]
  rw [laws_toByteS_ok (gl x 2) hx.2.2.1 (by omega)]
  simp only [Option.bind_some]
  rfl
theorem laws_toCmd_ok (x : V) (hx : W_Cmd x) (hz : z_Cmd x ≤ 1048576) : laws_toCmd x = some (cnv_Cmd x) := by
  simp only [z_Cmd] at hz
  unfold laws_toCmd
  rw [laws_toOp_ok (V.agg [(V.int .i64 (gi x 2)), (V.inl t_byte (gl x 3)), (V.inl t_byte (gl x 4)), (V.int .i64 (gi x 5))]) ⟨hx.2.2.1, hx.2.2.2.1, hx.2.2.2.2.1, hx.2.2.2.2.2⟩ (by simp only [z_Op, gl_c0, gl_cs]; omega)]
  simp only [Option.bind_some]
  rfl
theorem laws_toItem_ok (x : V) (hx : W_Item x) (hz : z_Item x ≤ 1048576) : laws_toItem x = some (cnv_Item x) := by
  simp only [z_Item] at hz
  unfold laws_toItem
  rw [laws_toCmd_ok (V.agg [(V.int .i64 (gi x 1)), (V.int .i64 (gi x 2)), (V.int .i64 (gi x 3)), (V.inl t_byte (gl x 4)), (V.inl t_byte (gl x 5)), (V.int .i64 (gi x 6))]) ⟨hx.2.1, hx.2.2.1, hx.2.2.2.1, hx.2.2.2.2.1, hx.2.2.2.2.2.1, hx.2.2.2.2.2.2⟩ (by simp only [z_Cmd, gl_c0, gl_cs]; omega)]
  simp only [Option.bind_some]
  rfl
theorem laws_toItemS_ok (a : List V) (ha : LW W_Item a) (hz : zS z_Item a ≤ 1048576) : laws_toItemS a = some (a.map cnv_Item) := by
  have hl := ha.1
  have hn : a.length ≤ 1048576 := by simp only [zS] at hz; omega
  unfold laws_toItemS
  rw [fuel_eq, show (((a.length : Nat) : Int)).toNat = a.length from by omega, roomy_of (n := a.length) (by omega) hl]
  simp only [Int.natCast_nonneg, decide_true, Bool.and_self, cond_true]
  have hz' : ∀ i, i < a.length → z_Item (rd a i) ≤ 1048576 := fun i hi => by
    have := sum_take_succ z_Item hi
    have := sumL_take_le z_Item a (i + 1)
    simp only [zS] at hz; omega
  rw [to_loop (F := fun m r i => laws_toItemS_l3 m a i r) (f := cnv_Item) ?_ ?_ (by simp)]
  · rfl
  · intro m i r hi hr
    have hr' : i < r.length := by omega
    have e := laws_toItem_ok (n_impl_Item (rd a i)) (ha.rd hi) (hz' i hi)
    simp only [laws_toItemS_l3, lt_nat hi, idxOk_nat hi, idxOk_nat hr', Int.toNat_natCast, Nat.zero_add, cond_true, e, Option.bind_some, wr_succ hi hl]
    rfl
  · intro m r
    simp only [laws_toItemS_l3, lt_self, cond_false]
theorem laws_toBoolS_ok (a : List V) (ha : LW W_bool a) (hz : zS z0 a ≤ 1048576) : laws_toBoolS a = some (a.map cnv_bool) := by
  have hl := ha.1
  have hn : a.length ≤ 1048576 := by simp only [zS] at hz; omega
  unfold laws_toBoolS
  rw [fuel_eq, show (((a.length : Nat) : Int)).toNat = a.length from by omega, roomy_of (n := a.length) (by omega) hl]
  simp only [Int.natCast_nonneg, decide_true, Bool.and_self, cond_true]
  rw [to_loop (F := fun m r i => laws_toBoolS_l3 m a i r) (f := cnv_bool) ?_ ?_ (by simp)]
  · rfl
  · intro m i r hi hr
    have hr' : i < r.length := by omega
    simp only [laws_toBoolS_l3, lt_nat hi, idxOk_nat hi, idxOk_nat hr', Int.toNat_natCast, Nat.zero_add, cond_true, Option.bind_some, wr_succ hi hl]
    rfl
  · intro m r
    simp only [laws_toBoolS_l3, lt_self, cond_false]
theorem laws_toIntS_ok (a : List V) (ha : LW W_int a) (hz : zS z0 a ≤ 1048576) : laws_toIntS a = some (a.map cnv_int) := by
  have hl := ha.1
  have hn : a.length ≤ 1048576 := by simp only [zS] at hz; omega
  unfold laws_toIntS
  rw [fuel_eq, show (((a.length : Nat) : Int)).toNat = a.length from by omega, roomy_of (n := a.length) (by omega) hl]
  simp only [Int.natCast_nonneg, decide_true, Bool.and_self, cond_true]
  rw [to_loop (F := fun m r i => laws_toIntS_l3 m a i r) (f := cnv_int) ?_ ?_ (by simp)]
  · rfl
  · intro m i r hi hr
    have hr' : i < r.length := by omega
    simp only [laws_toIntS_l3, lt_nat hi, idxOk_nat hi, idxOk_nat hr', Int.toNat_natCast, Nat.zero_add, cond_true, Option.bind_some, wr_succ hi hl]
    rfl
  · intro m r
    simp only [laws_toIntS_l3, lt_self, cond_false]
theorem laws_toNode_ok (x : V) (hx : W_Node x) (hz : z_Node x ≤ 1048576) : laws_toNode x = some (cnv_Node x) := by
  simp only [z_Node] at hz
  unfold laws_toNode
  rw [laws_toItemS_ok (gl x 3) hx.2.2.2.1 (by omega)]
  simp only [Option.bind_some]
  rw [laws_toBoolS_ok (gl x 8) hx.2.2.2.2.2.2.2.2.1 (by omega)]
  simp only [Option.bind_some]
  rw [laws_toIntS_ok (gl x 9) hx.2.2.2.2.2.2.2.2.2.1 (by omega)]
  simp only [Option.bind_some]
  rw [laws_toIntS_ok (gl x 10) hx.2.2.2.2.2.2.2.2.2.2 (by omega)]
  simp only [Option.bind_some]
  rfl
theorem laws_eqByteS_ok (a : List V) (ha : LW W_byte a) : laws_eqByteS a a = some (true) := by
  have hl := ha.1
  unfold laws_eqByteS
  simp only [decide_true, Bool.not_true, cond_false]
  rw [fuel_eq]
  rw [skip_loop (F := fun m i => laws_eqByteS_l4 m a a i) (n := a.length) (out := some (1, false)) ?_ ?_]
  · rfl
  · intro m i hi
    simp only [laws_eqByteS_l4, lt_nat hi, idxOk_nat hi, Int.toNat_natCast, cond_true, Option.bind_some, wr_succ hi hl, decide_true, beq_self_eq_true, Bool.not_true, cond_false]
  · intro m
    simp only [laws_eqByteS_l4, lt_self, cond_false]
theorem laws_eqOp_ok (x : V) (hx : W_Op x) : laws_eqOp x x = some (true) := by
  unfold laws_eqOp
  simp only [decide_true, beq_self_eq_true, Bool.not_true, cond_false, cond_true, Option.bind_some, laws_eqByteS_ok (gl x 1) hx.2.1, laws_eqByteS_ok (gl x 2) hx.2.2.1]
theorem laws_eqCmd_ok (x : V) (hx : W_Cmd x) : laws_eqCmd x x = some (true) := by
  unfold laws_eqCmd
  simp only [decide_true, beq_self_eq_true, Bool.not_true, cond_false, cond_true, Option.bind_some, laws_eqOp_ok (V.agg [(V.int .i64 (gi x 2)), (V.inl t_byte (gl x 3)), (V.inl t_byte (gl x 4)), (V.int .i64 (gi x 5))]) ⟨hx.2.2.1, hx.2.2.2.1, hx.2.2.2.2.1, hx.2.2.2.2.2⟩]
theorem laws_eqItem_ok (x : V) (hx : W_Item x) : laws_eqItem x x = some (true) := by
  unfold laws_eqItem
  simp only [decide_true, beq_self_eq_true, Bool.not_true, cond_false, cond_true, Option.bind_some, laws_eqCmd_ok (V.agg [(V.int .i64 (gi x 1)), (V.int .i64 (gi x 2)), (V.int .i64 (gi x 3)), (V.inl t_byte (gl x 4)), (V.inl t_byte (gl x 5)), (V.int .i64 (gi x 6))]) ⟨hx.2.1, hx.2.2.1, hx.2.2.2.1, hx.2.2.2.2.1, hx.2.2.2.2.2.1, hx.2.2.2.2.2.2⟩]
theorem laws_eqItemS_ok (a : List V) (ha : LW W_Item a) : laws_eqItemS a a = some (true) := by
  have hl := ha.1
  unfold laws_eqItemS
  simp only [decide_true, Bool.not_true, cond_false]
  rw [fuel_eq]
  rw [skip_loop (F := fun m i => laws_eqItemS_l4 m a a i) (n := a.length) (out := some (1, false)) ?_ ?_]
  · rfl
  · intro m i hi
    have e := laws_eqItem_ok (n_impl_Item (rd a i)) (ha.rd hi)
    simp only [laws_eqItemS_l4, lt_nat hi, idxOk_nat hi, Int.toNat_natCast, cond_true, e, Option.bind_some, wr_succ hi hl, decide_true, beq_self_eq_true, Bool.not_true, cond_false]
  · intro m
    simp only [laws_eqItemS_l4, lt_self, cond_false]
theorem laws_eqBoolS_ok (a : List V) (ha : LW W_bool a) : laws_eqBoolS a a = some (true) := by
  have hl := ha.1
  unfold laws_eqBoolS
  simp only [decide_true, Bool.not_true, cond_false]
  rw [fuel_eq]
  rw [skip_loop (F := fun m i => laws_eqBoolS_l4 m a a i) (n := a.length) (out := some (1, false)) ?_ ?_]
  · rfl
  · intro m i hi
    simp only [laws_eqBoolS_l4, lt_nat hi, idxOk_nat hi, Int.toNat_natCast, cond_true, Option.bind_some, wr_succ hi hl, decide_true, beq_self_eq_true, Bool.not_true, cond_false]
  · intro m
    simp only [laws_eqBoolS_l4, lt_self, cond_false]
theorem laws_eqIntS_ok (a : List V) (ha : LW W_int a) : laws_eqIntS a a = some (true) := by
  have hl := ha.1
  unfold laws_eqIntS
  simp only [decide_true, Bool.not_true, cond_false]
  rw [fuel_eq]
  rw [skip_loop (F := fun m i => laws_eqIntS_l4 m a a i) (n := a.length) (out := some (1, false)) ?_ ?_]
  · rfl
  · intro m i hi
    simp only [laws_eqIntS_l4, lt_nat hi, idxOk_nat hi, Int.toNat_natCast, cond_true, Option.bind_some, wr_succ hi hl, decide_true, beq_self_eq_true, Bool.not_true, cond_false]
  · intro m
    simp only [laws_eqIntS_l4, lt_self, cond_false]
theorem laws_eqNode_ok (x : V) (hx : W_Node x) : laws_eqNode x x = some (true) := by
  unfold laws_eqNode
  simp only [decide_true, beq_self_eq_true, Bool.not_true, cond_false, cond_true, Option.bind_some, laws_eqItemS_ok (gl x 3) hx.2.2.2.1, laws_eqBoolS_ok (gl x 8) hx.2.2.2.2.2.2.2.2.1, laws_eqIntS_ok (gl x 9) hx.2.2.2.2.2.2.2.2.2.1, laws_eqIntS_ok (gl x 10) hx.2.2.2.2.2.2.2.2.2.2]
theorem laws_eqMsg_ok (x : V) (hx : W_Msg x) : laws_eqMsg x x = some (true) := by
  unfold laws_eqMsg
  simp only [decide_true, beq_self_eq_true, Bool.not_true, cond_false, cond_true, Option.bind_some, laws_eqItemS_ok (gl x 6) hx.2.2.2.2.2.2.1]
theorem laws_eqMsgS_ok (a : List V) (ha : LW W_Msg a) : laws_eqMsgS a a = some (true) := by
  have hl := ha.1
  unfold laws_eqMsgS
  simp only [decide_true, Bool.not_true, cond_false]
  rw [fuel_eq]
  rw [skip_loop (F := fun m i => laws_eqMsgS_l4 m a a i) (n := a.length) (out := some (1, false)) ?_ ?_]
  · rfl
  · intro m i hi
    have e := laws_eqMsg_ok (n_impl_Msg (rd a i)) (ha.rd hi)
    simp only [laws_eqMsgS_l4, lt_nat hi, idxOk_nat hi, Int.toNat_natCast, cond_true, e, Option.bind_some, wr_succ hi hl, decide_true, beq_self_eq_true, Bool.not_true, cond_false]
  · intro m
    simp only [laws_eqMsgS_l4, lt_self, cond_false]
theorem laws_markByteS_ok (a : List V) (k : Int) (ha : LW W_byte a) (hk : 0 ≤ k) (hs : k + ((sumL c1 a : Nat) : Int) ≤ 9223372036854775807) : ∃ b, laws_markByteS a k = some (k + ((sumL c1 a : Nat) : Int), b) ∧ MS c1 M_byte b k ∧ sumL c1 b = sumL c1 a := by
  have hl := ha.1
  unfold laws_markByteS
  rw [fuel_eq]
  obtain ⟨b, e1, e2, e3, e4⟩ := mark_loop (F := fun m k i r => laws_markByteS_l2 m k i r) (c := c1) (M := M_byte) (w := W_byte) (by
    intro x k hx hk hs
    simp only [c1] at hs
    refine ⟨V.int .u8 (IntKind.u8.wrap k), rfl, rfl, fun m pre rest hlen => ?_⟩
    have hi : pre.length < (pre ++ x :: rest).length := by simp
    simp only [laws_markByteS_l2, lt_mid, idxOk_mid, Int.toNat_natCast, Nat.zero_add, set_mid, cond_true, wr_succ hi hlen]
    rw [wr64' (by omega) (by omega)]
    rfl)
    (by intro m k pre; simp only [laws_markByteS_l2, lt_self, cond_false]) a (a.length + 1) k [] (by omega) (by simpa using hl) ha.2 hk hs
  simp only [List.nil_append, List.length_nil, Int.natCast_zero] at e4
  rw [e4]
  exact ⟨b, rfl, ⟨by omega, e3⟩, e2⟩
theorem laws_markItemS_ok (a : List V) (k : Int) (ha : LW W_Item a) (hk : 0 ≤ k) (hs : k + ((sumL c_Item a : Nat) : Int) ≤ 9223372036854775807) : ∃ b, laws_markItemS a k = some (k + ((sumL c_Item a : Nat) : Int), b) ∧ MS c_Item M_Item b k ∧ sumL c_Item b = sumL c_Item a := by
  have hl := ha.1
  unfold laws_markItemS
  rw [fuel_eq]
  obtain ⟨b, e1, e2, e3, e4⟩ := mark_loop (F := fun m k i r => laws_markItemS_l2 m k i r) (c := c_Item) (M := M_Item) (w := W_Item) (by
    intro x k hx hk hs
    simp only [c_Item] at hs
    obtain ⟨b0, f0, g0, s0⟩ := laws_markByteS_ok (gl x 4) (k + 1 + 1 + 1 + 1) (hx.2.2.2.2.1) (by omega) (by omega)
    obtain ⟨b1, f1, g1, s1⟩ := laws_markByteS_ok (gl x 5) (k + 1 + 1 + 1 + 1 + ((sumL c1 (gl x 4) : Nat) : Int)) (hx.2.2.2.2.2.1) (by omega) (by omega)
    refine ⟨V.agg [V.int .i64 (k), V.int .i64 (k + 1), V.int .i64 (k + 1 + 1), V.int .i64 (k + 1 + 1 + 1), V.inl t_byte b0, V.inl t_byte b1, V.int .i64 (k + 1 + 1 + 1 + 1 + ((sumL c1 (gl x 4) : Nat) : Int) + ((sumL c1 (gl x 5) : Nat) : Int))], ?_, ?_, fun m pre rest hlen => ?_⟩
    · simp only [M_Item, gl_c0, gl_cs, gi_c0, gi_cs, gb_c0, gb_cs, and_true, true_and, s0, s1]
      exact ⟨g0, g1⟩
    · simp only [c_Item, gl_c0, gl_cs, s0, s1]
    · have hi : pre.length < (pre ++ x :: rest).length := by simp
      simp (disch := omega) only [laws_markItemS_l2, rlet, lt_mid, idxOk_mid, Int.toNat_natCast, Nat.zero_add, set_mid, rd_mid, gi_c0, gi_cs, gl_c0, gl_cs, gb_c0, gb_cs, cond_true, wr_succ hi hlen, wr64', Option.bind_some, f0, f1]
      congr 1
      simp only [c_Item]; omega)
    (by intro m k pre; simp only [laws_markItemS_l2, lt_self, cond_false]) a (a.length + 1) k [] (by omega) (by simpa using hl) ha.2 hk hs
  simp only [List.nil_append, List.length_nil, Int.natCast_zero] at e4
  rw [e4]
  exact ⟨b, rfl, ⟨by omega, e3⟩, e2⟩
theorem laws_markBoolS_ok (a : List V) (k : Int) (ha : LW W_bool a) (hk : 0 ≤ k) (hs : k + ((sumL c1 a : Nat) : Int) ≤ 9223372036854775807) : ∃ b, laws_markBoolS a k = some (k + ((sumL c1 a : Nat) : Int), b) ∧ MS c1 M_bool b k ∧ sumL c1 b = sumL c1 a := by
  have hl := ha.1
  unfold laws_markBoolS
  rw [fuel_eq]
  obtain ⟨b, e1, e2, e3, e4⟩ := mark_loop (F := fun m k i r => laws_markBoolS_l2 m k i r) (c := c1) (M := M_bool) (w := W_bool) (by
    intro x k hx hk hs
    simp only [c1] at hs
    refine ⟨V.bool (decide (k.tmod 3 = 0)), rfl, rfl, fun m pre rest hlen => ?_⟩
    have hi : pre.length < (pre ++ x :: rest).length := by simp
    simp only [laws_markBoolS_l2, lt_mid, idxOk_mid, Int.toNat_natCast, Nat.zero_add, set_mid, cond_true, wr_succ hi hlen]
    rw [wr64' (by omega) (by omega)]
    rfl)
    (by intro m k pre; simp only [laws_markBoolS_l2, lt_self, cond_false]) a (a.length + 1) k [] (by omega) (by simpa using hl) ha.2 hk hs
  simp only [List.nil_append, List.length_nil, Int.natCast_zero] at e4
  rw [e4]
  exact ⟨b, rfl, ⟨by omega, e3⟩, e2⟩
theorem laws_markIntS_ok (a : List V) (k : Int) (ha : LW W_int a) (hk : 0 ≤ k) (hs : k + ((sumL c1 a : Nat) : Int) ≤ 9223372036854775807) : ∃ b, laws_markIntS a k = some (k + ((sumL c1 a : Nat) : Int), b) ∧ MS c1 M_int b k ∧ sumL c1 b = sumL c1 a := by
  have hl := ha.1
  unfold laws_markIntS
  rw [fuel_eq]
  obtain ⟨b, e1, e2, e3, e4⟩ := mark_loop (F := fun m k i r => laws_markIntS_l2 m k i r) (c := c1) (M := M_int) (w := W_int) (by
    intro x k hx hk hs
    simp only [c1] at hs
    refine ⟨V.int .i64 k, rfl, rfl, fun m pre rest hlen => ?_⟩
    have hi : pre.length < (pre ++ x :: rest).length := by simp
    simp only [laws_markIntS_l2, lt_mid, idxOk_mid, Int.toNat_natCast, Nat.zero_add, set_mid, cond_true, wr_succ hi hlen]
    rw [wr64' (by omega) (by omega)]
    rfl)
    (by intro m k pre; simp only [laws_markIntS_l2, lt_self, cond_false]) a (a.length + 1) k [] (by omega) (by simpa using hl) ha.2 hk hs
  simp only [List.nil_append, List.length_nil, Int.natCast_zero] at e4
  rw [e4]
  exact ⟨b, rfl, ⟨by omega, e3⟩, e2⟩
theorem laws_markNode_ok (x : V) (k : Int) (hx : W_Node x) (hk : 0 ≤ k) (hs : k + ((ct_Node x : Nat) : Int) ≤ 9223372036854775807) : ∃ b0 b1 b2 b3, laws_markNode x k = some (k + ((ct_Node x : Nat) : Int), b0, b1, b2, b3) ∧ MS c_Item M_Item b0 (k) ∧ sumL c_Item b0 = sumL c_Item (gl x 3) ∧ MS c1 M_bool b1 (k + ((sumL c_Item (gl x 3) : Nat) : Int)) ∧ sumL c1 b1 = sumL c1 (gl x 8) ∧ MS c1 M_int b2 (k + ((sumL c_Item (gl x 3) : Nat) : Int) + ((sumL c1 (gl x 8) : Nat) : Int)) ∧ sumL c1 b2 = sumL c1 (gl x 9) ∧ MS c1 M_int b3 (k + ((sumL c_Item (gl x 3) : Nat) : Int) + ((sumL c1 (gl x 8) : Nat) : Int) + ((sumL c1 (gl x 9) : Nat) : Int)) ∧ sumL c1 b3 = sumL c1 (gl x 10) := by
  simp only [ct_Node] at hs ⊢
  unfold laws_markNode
  obtain ⟨b0, f0, g0, s0⟩ := laws_markItemS_ok (gl x 3) (k) hx.2.2.2.1 (by omega) (by omega)
  simp only [f0, Option.bind_some]
  obtain ⟨b1, f1, g1, s1⟩ := laws_markBoolS_ok (gl x 8) (k + ((sumL c_Item (gl x 3) : Nat) : Int)) hx.2.2.2.2.2.2.2.2.1 (by omega) (by omega)
  simp only [f1, Option.bind_some]
  obtain ⟨b2, f2, g2, s2⟩ := laws_markIntS_ok (gl x 9) (k + ((sumL c_Item (gl x 3) : Nat) : Int) + ((sumL c1 (gl x 8) : Nat) : Int)) hx.2.2.2.2.2.2.2.2.2.1 (by omega) (by omega)
  simp only [f2, Option.bind_some]
  obtain ⟨b3, f3, g3, s3⟩ := laws_markIntS_ok (gl x 10) (k + ((sumL c_Item (gl x 3) : Nat) : Int) + ((sumL c1 (gl x 8) : Nat) : Int) + ((sumL c1 (gl x 9) : Nat) : Int)) hx.2.2.2.2.2.2.2.2.2.2 (by omega) (by omega)
  simp only [f3, Option.bind_some]
  refine ⟨b0, b1, b2, b3, ?_, ?_, s0, ?_, s1, ?_, s2, ?_, s3⟩
  · first | rfl | (congr 2; omega)
  · first | exact g0 | (refine cast (congrArg _ ?_) g0; omega)
  · first | exact g1 | (refine cast (congrArg _ ?_) g1; omega)
  · first | exact g2 | (refine cast (congrArg _ ?_) g2; omega)
  · first | exact g3 | (refine cast (congrArg _ ?_) g3; omega)
theorem laws_markMsgS_ok (a : List V) (k : Int) (ha : LW W_Msg a) (hk : 0 ≤ k) (hs : k + ((sumL c_Msg a : Nat) : Int) ≤ 9223372036854775807) : ∃ b, laws_markMsgS a k = some (k + ((sumL c_Msg a : Nat) : Int), b) ∧ MS c_Msg M_Msg b k ∧ sumL c_Msg b = sumL c_Msg a := by
  have hl := ha.1
  unfold laws_markMsgS
  rw [fuel_eq]
  obtain ⟨b, e1, e2, e3, e4⟩ := mark_loop (F := fun m k i r => laws_markMsgS_l2 m k i r) (c := c_Msg) (M := M_Msg) (w := W_Msg) (by
    intro x k hx hk hs
    simp only [c_Msg] at hs
    obtain ⟨b0, f0, g0, s0⟩ := laws_markItemS_ok (gl x 6) (k + 1 + 1 + 1 + 1 + 1 + 1) (hx.2.2.2.2.2.2.1) (by omega) (by omega)
    refine ⟨V.agg [V.int .i64 (k), V.int .i64 (k + 1), V.int .i64 (k + 1 + 1), V.int .i64 (k + 1 + 1 + 1), V.int .i64 (k + 1 + 1 + 1 + 1), V.int .i64 (k + 1 + 1 + 1 + 1 + 1), V.inl t_impl_Item b0, V.int .i64 (k + 1 + 1 + 1 + 1 + 1 + 1 + ((sumL c_Item (gl x 6) : Nat) : Int)), V.bool (decide ((k + 1 + 1 + 1 + 1 + 1 + 1 + ((sumL c_Item (gl x 6) : Nat) : Int) + 1).tmod 3 = 0))], ?_, ?_, fun m pre rest hlen => ?_⟩
    · simp only [M_Msg, gl_c0, gl_cs, gi_c0, gi_cs, gb_c0, gb_cs, and_true, true_and, s0]
      exact g0
    · simp only [c_Msg, gl_c0, gl_cs, s0]
    · have hi : pre.length < (pre ++ x :: rest).length := by simp
      simp (disch := omega) only [laws_markMsgS_l2, rlet, lt_mid, idxOk_mid, Int.toNat_natCast, Nat.zero_add, set_mid, rd_mid, gi_c0, gi_cs, gl_c0, gl_cs, gb_c0, gb_cs, cond_true, wr_succ hi hlen, wr64', Option.bind_some, f0]
      congr 1
      simp only [c_Msg]; omega)
    (by intro m k pre; simp only [laws_markMsgS_l2, lt_self, cond_false]) a (a.length + 1) k [] (by omega) (by simpa using hl) ha.2 hk hs
  simp only [List.nil_append, List.length_nil, Int.natCast_zero] at e4
  rw [e4]
  exact ⟨b, rfl, ⟨by omega, e3⟩, e2⟩
theorem laws_heldByteS_ok (a : List V) (k : Int) (hM : MS c1 M_byte a k) (hk : 0 ≤ k) (hs : k + ((sumL c1 a : Nat) : Int) ≤ 9223372036854775807) : laws_heldByteS a k = some (k + ((sumL c1 a : Nat) : Int)) := by
  have hl := hM.1
  unfold laws_heldByteS
  rw [fuel_eq]
  rw [held_loop (F := fun m k i => laws_heldByteS_l2 m a k i) (c := c1) (M := M_byte) (l := a) (out := fun k => some (1, k, 0)) ?_ ?_ hk hs hM]
  · rfl
  · intro m k i hi hk hs hM
    simp only [c1] at hs ⊢
    simp only [M_byte] at hM
    simp only [laws_heldByteS_l2, lt_nat hi, idxOk_nat hi, Int.toNat_natCast, hM, decide_true, beq_self_eq_true, Bool.not_true, cond_true, cond_false, wr_succ hi hl]
    rw [wr64' (by omega) (by omega)]
    rfl
  · intro m k
    simp only [laws_heldByteS_l2, lt_self, cond_false]
theorem laws_heldItemS_ok (a : List V) (k : Int) (hM : MS c_Item M_Item a k) (hk : 0 ≤ k) (hs : k + ((sumL c_Item a : Nat) : Int) ≤ 9223372036854775807) : laws_heldItemS a k = some (k + ((sumL c_Item a : Nat) : Int)) := by
  have hl := hM.1
  unfold laws_heldItemS
  rw [fuel_eq]
  rw [held_loop (F := fun m k i => laws_heldItemS_l2 m a k i) (c := c_Item) (M := M_Item) (l := a) (out := fun k => some (1, k, 0)) ?_ ?_ hk hs hM]
  · rfl
  · intro m k i hi hk hs hM
    simp only [c_Item] at hs
    simp only [M_Item] at hM
    obtain ⟨q0, q1, q2, q3, q4, q5, q6⟩ := hM
    have e4 := laws_heldByteS_ok (gl (rd a i) 4) (k + 1 + 1 + 1 + 1) q4 (by omega) (by omega)
    have n4 : decide (k + 1 + 1 + 1 + 1 + ((sumL c1 (gl (rd a i) 4) : Nat) : Int) < 0) = false := by simp; omega
    have e5 := laws_heldByteS_ok (gl (rd a i) 5) (k + 1 + 1 + 1 + 1 + ((sumL c1 (gl (rd a i) 4) : Nat) : Int)) q5 (by omega) (by omega)
    have n5 : decide (k + 1 + 1 + 1 + 1 + ((sumL c1 (gl (rd a i) 4) : Nat) : Int) + ((sumL c1 (gl (rd a i) 5) : Nat) : Int) < 0) = false := by simp; omega
    simp (disch := omega) only [laws_heldItemS_l2, lt_nat hi, idxOk_nat hi, Int.toNat_natCast, wr64', q0, q1, q2, q3, e4, n4, e5, n5, q6, decide_true, beq_self_eq_true, Bool.not_true, cond_true, cond_false, Option.bind_some, wr_succ hi hl]
    congr 1
    simp only [c_Item]; omega
  · intro m k
    simp only [laws_heldItemS_l2, lt_self, cond_false]
theorem laws_heldBoolS_ok (a : List V) (k : Int) (hM : MS c1 M_bool a k) (hk : 0 ≤ k) (hs : k + ((sumL c1 a : Nat) : Int) ≤ 9223372036854775807) : laws_heldBoolS a k = some (k + ((sumL c1 a : Nat) : Int)) := by
  have hl := hM.1
  unfold laws_heldBoolS
  rw [fuel_eq]
  rw [held_loop (F := fun m k i => laws_heldBoolS_l2 m a k i) (c := c1) (M := M_bool) (l := a) (out := fun k => some (1, k, 0)) ?_ ?_ hk hs hM]
  · rfl
  · intro m k i hi hk hs hM
    simp only [c1] at hs ⊢
    simp only [M_bool] at hM
    simp only [laws_heldBoolS_l2, lt_nat hi, idxOk_nat hi, Int.toNat_natCast, hM, decide_true, beq_self_eq_true, Bool.not_true, cond_true, cond_false, wr_succ hi hl]
    rw [wr64' (by omega) (by omega)]
    rfl
  · intro m k
    simp only [laws_heldBoolS_l2, lt_self, cond_false]
theorem laws_heldIntS_ok (a : List V) (k : Int) (hM : MS c1 M_int a k) (hk : 0 ≤ k) (hs : k + ((sumL c1 a : Nat) : Int) ≤ 9223372036854775807) : laws_heldIntS a k = some (k + ((sumL c1 a : Nat) : Int)) := by
  have hl := hM.1
  unfold laws_heldIntS
  rw [fuel_eq]
  rw [held_loop (F := fun m k i => laws_heldIntS_l2 m a k i) (c := c1) (M := M_int) (l := a) (out := fun k => some (1, k, 0)) ?_ ?_ hk hs hM]
  · rfl
  · intro m k i hi hk hs hM
    simp only [c1] at hs ⊢
    simp only [M_int] at hM
    simp only [laws_heldIntS_l2, lt_nat hi, idxOk_nat hi, Int.toNat_natCast, hM, decide_true, beq_self_eq_true, Bool.not_true, cond_true, cond_false, wr_succ hi hl]
    rw [wr64' (by omega) (by omega)]
    rfl
  · intro m k
    simp only [laws_heldIntS_l2, lt_self, cond_false]
theorem laws_heldNode_ok (x : V) (k : Int) (h3 : MS c_Item M_Item (gl x 3) (k)) (h8 : MS c1 M_bool (gl x 8) (k + ((sumL c_Item (gl x 3) : Nat) : Int))) (h9 : MS c1 M_int (gl x 9) (k + ((sumL c_Item (gl x 3) : Nat) : Int) + ((sumL c1 (gl x 8) : Nat) : Int))) (h10 : MS c1 M_int (gl x 10) (k + ((sumL c_Item (gl x 3) : Nat) : Int) + ((sumL c1 (gl x 8) : Nat) : Int) + ((sumL c1 (gl x 9) : Nat) : Int))) (hk : 0 ≤ k) (hs : k + ((ct_Node x : Nat) : Int) ≤ 9223372036854775807) : laws_heldNode x k = some (k + ((ct_Node x : Nat) : Int)) := by
  simp only [ct_Node] at hs ⊢
  unfold laws_heldNode
  rw [laws_heldItemS_ok (gl x 3) (k) h3 (by omega) (by omega)]
  simp only [Option.bind_some, show decide (k + ((sumL c_Item (gl x 3) : Nat) : Int) < 0) = false from by simp; omega, cond_false]
  rw [laws_heldBoolS_ok (gl x 8) (k + ((sumL c_Item (gl x 3) : Nat) : Int)) h8 (by omega) (by omega)]
  simp only [Option.bind_some, show decide (k + ((sumL c_Item (gl x 3) : Nat) : Int) + ((sumL c1 (gl x 8) : Nat) : Int) < 0) = false from by simp; omega, cond_false]
  rw [laws_heldIntS_ok (gl x 9) (k + ((sumL c_Item (gl x 3) : Nat) : Int) + ((sumL c1 (gl x 8) : Nat) : Int)) h9 (by omega) (by omega)]
  simp only [Option.bind_some, show decide (k + ((sumL c_Item (gl x 3) : Nat) : Int) + ((sumL c1 (gl x 8) : Nat) : Int) + ((sumL c1 (gl x 9) : Nat) : Int) < 0) = false from by simp; omega, cond_false]
  rw [laws_heldIntS_ok (gl x 10) (k + ((sumL c_Item (gl x 3) : Nat) : Int) + ((sumL c1 (gl x 8) : Nat) : Int) + ((sumL c1 (gl x 9) : Nat) : Int)) h10 (by omega) (by omega)]
  simp only [Option.bind_some, show decide (k + ((sumL c_Item (gl x 3) : Nat) : Int) + ((sumL c1 (gl x 8) : Nat) : Int) + ((sumL c1 (gl x 9) : Nat) : Int) + ((sumL c1 (gl x 10) : Nat) : Int) < 0) = false from by simp; omega, cond_false]
  try first | rfl | (congr 1; omega)
theorem laws_heldMsgS_ok (a : List V) (k : Int) (hM : MS c_Msg M_Msg a k) (hk : 0 ≤ k) (hs : k + ((sumL c_Msg a : Nat) : Int) ≤ 9223372036854775807) : laws_heldMsgS a k = some (k + ((sumL c_Msg a : Nat) : Int)) := by
  have hl := hM.1
  unfold laws_heldMsgS
  rw [fuel_eq]
  rw [held_loop (F := fun m k i => laws_heldMsgS_l2 m a k i) (c := c_Msg) (M := M_Msg) (l := a) (out := fun k => some (1, k, 0)) ?_ ?_ hk hs hM]
  · rfl
  · intro m k i hi hk hs hM
    simp only [c_Msg] at hs
    simp only [M_Msg] at hM
    obtain ⟨q0, q1, q2, q3, q4, q5, q6, q7, q8⟩ := hM
    have e6 := laws_heldItemS_ok (gl (rd a i) 6) (k + 1 + 1 + 1 + 1 + 1 + 1) q6 (by omega) (by omega)
    have n6 : decide (k + 1 + 1 + 1 + 1 + 1 + 1 + ((sumL c_Item (gl (rd a i) 6) : Nat) : Int) < 0) = false := by simp; omega
    simp (disch := omega) only [laws_heldMsgS_l2, lt_nat hi, idxOk_nat hi, Int.toNat_natCast, wr64', q0, q1, q2, q3, q4, q5, e6, n6, q7, q8, decide_true, beq_self_eq_true, Bool.not_true, cond_true, cond_false, Option.bind_some, wr_succ hi hl]
    congr 1
    simp only [c_Msg]; omega
  · intro m k
    simp only [laws_heldMsgS_l2, lt_self, cond_false]
end Go.Eng.R
open Go Go.Eng
namespace Go.Eng.R
def chB (x : V) : Bool := !decide (gi x 0 < 97) && !decide (122 < gi x 0) || decide (gi x 0 = 47)
theorem all_take_succ {p : V → Bool} {l : List V} {i : Nat} (h : i < l.length) : (l.take (i + 1)).all p = ((l.take i).all p && p (rd l i)) := by
  rw [List.take_add_one, List.all_append]
  have : l[i]? = some (rd l i) := by simp [rd, List.getD, h]
  rw [this]; simp
theorem all_rd_false {p : V → Bool} {l : List V} {i : Nat} (h : i < l.length) (hp : p (rd l i) = false) : l.all p = false := by
  rw [List.all_eq_false]
  refine ⟨rd l i, ?_, by simp [hp]⟩
  have : rd l i = l[i] := by simp [rd, List.getD, h]
  rw [this]; exact List.getElem_mem h
theorem all_loop {ρ : Type} {F : Nat → Int → ρ} {l : List V} {p : V → Bool} {yes no : ρ}
    (h1 : ∀ m (i : Nat), i < l.length → F (m + 1) (i : Int) = bif p (rd l i) then F m ((i + 1 : Nat) : Int) else no) (h0 : ∀ m, F (m + 1) (l.length : Int) = yes) :
    F (l.length + 1) 0 = bif l.all p then yes else no := by
  refine loop_run0 (F := fun m (_ : Unit) i => F m i) (n := l.length) (fun i _ => (l.take i).all p = true) (fun o => o = bif l.all p then yes else no) ?_ ?_ (s := ()) (by simp)
  · intro m i s hi hI
    rw [h1 m i hi]
    cases hp : p (rd l i) with
    | true => exact .inl ⟨(), rfl, by rw [all_take_succ hi, hI, hp]; rfl⟩
    | false => exact .inr (by rw [all_rd_false hi hp]; rfl)
  · intro m s hI
    rw [List.take_length] at hI
    rw [hI]; exact h0 m
def keyB (b : List V) : Bool := decide (1 ≤ b.length) && (decide (b.length ≤ 20) && b.all chB)
theorem spec_l2key_eq {b : List V} (hb : LW W_byte b) : spec_l2key b = some (keyB b) := by
  have hl := hb.1
  unfold spec_l2key keyB
  by_cases h1 : 1 ≤ b.length
  · by_cases h2 : b.length ≤ 20
    · rw [show decide (((b.length : Nat) : Int) < 1) = false from by simp; omega, show decide ((20 : Int) < ((b.length : Nat) : Int)) = false from by simp; omega, cond_false, cond_false, fuel_eq,
        all_loop (F := fun m i => spec_l2key_l4 m b i) (l := b) (p := chB) (yes := some (1, false)) (no := some (0, false)) ?_ ?_]
      · simp only [h1, h2, decide_true, Bool.true_and]
        cases b.all chB <;> rfl
      · intro m i hi
        simp only [spec_l2key_l4, lt_nat hi, idxOk_nat hi, Int.toNat_natCast, cond_true, wr_succ hi hl, chB]
        cases decide (gi (rd b i) 0 < 97) <;> cases decide (122 < gi (rd b i) 0) <;> cases decide (gi (rd b i) 0 = 47) <;> rfl
      · intro m; simp only [spec_l2key_l4, lt_self, cond_false]
    · rw [show decide (((b.length : Nat) : Int) < 1) = false from by simp; omega, show decide ((20 : Int) < ((b.length : Nat) : Int)) = true from by simp; omega]
      simp [h2]
  · rw [show decide (((b.length : Nat) : Int) < 1) = true from by simp; omega]
    simp [h1]
theorem within_eq (n lo hi : Int) : impl_within n lo hi = decide (lo ≤ n ∧ n ≤ hi) := by
  unfold impl_within
  by_cases h : lo ≤ n <;> simp [h]
theorem impl_KeyOk_eq {b : List V} (hb : LW W_byte b) : impl_KeyOk b = some (keyB b) := by
  have hl := hb.1
  unfold impl_KeyOk keyB
  rw [fuel_eq, all_loop (F := fun m i => impl_KeyOk_l2 m b b ((b.length : Nat) : Int) i) (l := b) (p := chB) (yes := some (1, b, false)) (no := some (0, b, false)) ?_ ?_]
  · cases b.all chB with
    | true => simp only [cond_true, Option.bind_some, within_eq]; simp [Nat.beq]; by_cases h1 : 1 ≤ b.length <;> by_cases h2 : b.length ≤ 20 <;> simp [h1, h2] <;> omega
    | false => simp [Nat.beq]
  · intro m i hi
    simp only [impl_KeyOk_l2, lt_nat hi, idxOk_nat hi, Int.toNat_natCast, cond_true, wr_succ hi hl, chB]
    cases decide (gi (rd b i) 0 < 97) <;> cases decide (122 < gi (rd b i) 0) <;> cases decide (gi (rd b i) 0 = 47) <;> rfl
  · intro m; simp only [impl_KeyOk_l2, lt_self, cond_false]
def opB (k : Int) (key : Bool) (nk nv : Nat) (n : Int) : Bool :=
  decide (nv ≤ 20) && (decide (0 ≤ n ∧ n ≤ 1000000) &&
    (bif decide (k = 1 ∨ k = 2 ∨ k = 3 ∨ k = 6 ∨ k = 7) then key else decide (nk = 0)) &&
    ((bif decide (k = 1 ∨ k = 2 ∨ k = 6) then true else decide (nv = 0)) &&
    ((bif decide (k = 0 ∨ k = 1 ∨ k = 3) then decide (n = 0) else bif decide (k = 4) then decide (n ≤ 1) else bif decide (k = 2) then true else decide (1 ≤ n)) && decide (0 ≤ k ∧ k ≤ 7))))
theorem impl_OpOk_eq {o : V} (ho : W_Op o) : impl_OpOk o = some (opB (gi o 0) (keyB (gl o 1)) (gl o 1).length (gl o 2).length (gi o 3)) := by
  unfold impl_OpOk
  rw [impl_KeyOk_eq ho.2.1]
  simp only [within_eq, impl_isValue, Option.bind_some]
  generalize gi o 0 = k
  generalize keyB (gl o 1) = key
  generalize (gl o 1).length = nk
  generalize (gl o 2).length = nv
  generalize gi o 3 = n
  by_cases hk : 0 ≤ k ∧ k ≤ 7
  · obtain rfl | rfl | rfl | rfl | rfl | rfl | rfl | rfl : k = 0 ∨ k = 1 ∨ k = 2 ∨ k = 3 ∨ k = 4 ∨ k = 5 ∨ k = 6 ∨ k = 7 := by omega
    all_goals (cases key <;> simp [opB, Bool.cond_eq_ite] <;> (repeat' split) <;> simp_all <;> first | omega | (rw [Bool.eq_iff_iff]; simp; omega))
  · have hh : decide (0 ≤ k ∧ k ≤ 7) = false := by simpa using hk
    have h0 : decide (k = 0) = false := by simp; omega
    have h1 : decide (k = 1) = false := by simp; omega
    have h2 : decide (k = 2) = false := by simp; omega
    have h3 : decide (k = 3) = false := by simp; omega
    have h4 : decide (k = 4) = false := by simp; omega
    have h5 : decide (k = 5) = false := by simp; omega
    have h6 : decide (k = 6) = false := by simp; omega
    have h7 : decide (k = 7) = false := by simp; omega
    simp only [opB, hh, h0, h1, h2, h3, h4, h5, h6, h7, cond_false, Bool.and_false]
theorem spec_OpOk_eq {o : V} (ho : W_Op o) : spec_OpOk o = some (opB (gi o 0) (keyB (gl o 1)) (gl o 1).length (gl o 2).length (gi o 3)) := by
  unfold spec_OpOk
  rw [spec_l2key_eq ho.2.1]
  simp only [spec_l2val, spec_l2index, Option.bind_some]
  generalize gi o 0 = k
  generalize keyB (gl o 1) = key
  generalize (gl o 1).length = nk
  generalize (gl o 2).length = nv
  generalize gi o 3 = n
  by_cases hk : 0 ≤ k ∧ k ≤ 7
  · obtain rfl | rfl | rfl | rfl | rfl | rfl | rfl | rfl : k = 0 ∨ k = 1 ∨ k = 2 ∨ k = 3 ∨ k = 4 ∨ k = 5 ∨ k = 6 ∨ k = 7 := by omega
    all_goals (cases key <;> simp [opB, Bool.cond_eq_ite] <;> (repeat' split) <;> simp_all <;> omega)
  · have hh : decide (0 ≤ k ∧ k ≤ 7) = false := by simpa using hk
    simp only [opB, hh, Bool.and_false]
    by_cases h : k < 0
    · simp [h]
    · rw [show decide (k < 0) = false from by simpa using h, show decide (7 < k) = true from by simp; omega]; rfl
def cmdB (c : V) : Bool :=
  bif decide (gi c 0 = -1) then decide (gi c 1 = 0) && (decide (gi c 2 = 0) && opB (gi c 2) (keyB (gl c 3)) (gl c 3).length (gl c 4).length (gi c 5))
  else decide (0 ≤ gi c 0 ∧ gi c 0 ≤ 3) && (decide (1 ≤ gi c 1 ∧ gi c 1 ≤ 1000000) && opB (gi c 2) (keyB (gl c 3)) (gl c 3).length (gl c 4).length (gi c 5))
theorem spec_CmdOk_eq {c : V} (hc : W_Cmd c) : spec_CmdOk c = some (cmdB c) := by
  unfold spec_CmdOk
  rw [spec_OpOk_eq (o := V.agg [(V.int .i64 (gi c 2)), (V.inl t_byte (gl c 3)), (V.inl t_byte (gl c 4)), (V.int .i64 (gi c 5))]) hc.2.2]
  simp only [Option.bind_some, gi_c0, gi_cs, gl_c0, gl_cs, cmdB]
  generalize opB _ _ _ _ _ = z
  by_cases h1 : gi c 0 = -1
  · simp only [h1, decide_true, cond_true]
    by_cases h2 : gi c 1 = 0 <;> by_cases h3 : gi c 2 = 0 <;> simp [h2, h3]
  · simp only [h1, decide_false, cond_false]
    by_cases h2 : 0 ≤ gi c 0 <;> by_cases h3 : gi c 0 < 4 <;> by_cases h4 : 1 ≤ gi c 1 <;> by_cases h5 : gi c 1 ≤ 1000000 <;> simp [h2, h3, h4, h5] <;> omega
theorem eqList_nil (l : List V) : eqList (l.map normB) [] = decide (l.length = 0) := by cases l <;> simp [eqList]
theorem impl_same_noOp (c : V) : impl_Cmd_same (n_laws_Cmd c) (n_laws_Cmd impl_noOp) = (decide (gi c 0 = -1) && (decide (gi c 1 = 0) && (decide (gi c 2 = 0) && (decide ((gl c 3).length = 0) && (decide ((gl c 4).length = 0) && decide (gi c 5 = 0)))))) := by
  simp only [impl_Cmd_same, impl_Op_same, impl_noOp, n_laws_Cmd, gi_c0, gi_cs, gl_c0, gl_cs, bytes_Equal, List.map_nil, eqList_nil]
  by_cases h0 : gi c 0 = -1 <;> by_cases h1 : gi c 1 = 0 <;> by_cases h2 : gi c 2 = 0 <;> by_cases h3 : (gl c 3).length = 0 <;> by_cases h4 : (gl c 4).length = 0 <;> simp [h0, h1, h2, h3, h4] <;> rfl
theorem impl_CmdOk_eq {c : V} (hc : W_Cmd c) : impl_CmdOk c = some (cmdB c) := by
  unfold impl_CmdOk
  rw [impl_OpOk_eq (o := V.agg [(V.int .i64 (gi c 2)), (V.inl t_byte (gl c 3)), (V.inl t_byte (gl c 4)), (V.int .i64 (gi c 5))]) hc.2.2, impl_same_noOp]
  simp only [Option.bind_some, gi_c0, gi_cs, gl_c0, gl_cs, cmdB, within_eq]
  by_cases h1 : gi c 0 = -1
  · simp only [h1, decide_true, cond_true, Bool.true_and]
    rw [show decide (0 ≤ (-1 : Int) ∧ (-1 : Int) ≤ 3) = false from rfl]
    by_cases h2 : gi c 1 = 0 <;> by_cases h3 : gi c 2 = 0 <;> simp only [h2, h3, decide_true, decide_false, Bool.true_and, Bool.false_and, cond_false]
    simp only [opB]
    by_cases a3 : (gl c 3).length = 0 <;> by_cases a4 : (gl c 4).length = 0 <;> by_cases a5 : gi c 5 = 0 <;> simp [a3, a4, a5]
  · simp only [h1, decide_false, cond_false, Bool.false_and]
    generalize opB _ _ _ _ _ = z
    by_cases h2 : 0 ≤ gi c 0 ∧ gi c 0 ≤ 3 <;> by_cases h3 : 1 ≤ gi c 1 ∧ gi c 1 ≤ 1000000 <;> simp [h2, h3]
def itemB (x : V) : Bool := decide (1 ≤ gi x 0 ∧ gi x 0 ≤ 100000) && cmdB (V.agg [(V.int .i64 (gi x 1)), (V.int .i64 (gi x 2)), (V.int .i64 (gi x 3)), (V.inl t_byte (gl x 4)), (V.inl t_byte (gl x 5)), (V.int .i64 (gi x 6))])
theorem spec_ItemOk_eq {x : V} (hx : W_Item x) : spec_ItemOk x = some (itemB x) := by
  unfold spec_ItemOk itemB
  rw [spec_CmdOk_eq (c := V.agg [(V.int .i64 (gi x 1)), (V.int .i64 (gi x 2)), (V.int .i64 (gi x 3)), (V.inl t_byte (gl x 4)), (V.inl t_byte (gl x 5)), (V.int .i64 (gi x 6))]) hx.2]
  by_cases h1 : 1 ≤ gi x 0 <;> by_cases h2 : gi x 0 ≤ 100000 <;> simp [h1, h2]
theorem impl_ItemOk_eq {x : V} (hx : W_Item x) : impl_ItemOk x = some (itemB x) := by
  unfold impl_ItemOk itemB impl_isTerm
  rw [impl_CmdOk_eq (c := V.agg [(V.int .i64 (gi x 1)), (V.int .i64 (gi x 2)), (V.int .i64 (gi x 3)), (V.inl t_byte (gl x 4)), (V.inl t_byte (gl x 5)), (V.int .i64 (gi x 6))]) hx.2, within_eq]
  by_cases h1 : 1 ≤ gi x 0 ∧ gi x 0 ≤ 100000 <;> simp [h1]
end Go.Eng.R
open Go Go.Eng
namespace Go.Eng.R
open Classical
theorem range_all_succ {p : Nat → Bool} {i : Nat} : (List.range (i + 1)).all p = ((List.range i).all p && p i) := by
  rw [List.range_succ, List.all_append]; simp
theorem range_all_false {p : Nat → Bool} {i n : Nat} (h : i < n) (hp : p i = false) : (List.range n).all p = false := by
  rw [List.all_eq_false]
  exact ⟨i, List.mem_range.2 h, by simp [hp]⟩
theorem all_run {σ ρ : Type} {F : Nat → σ → Int → ρ} {n : Nat} {p : Nat → Bool} {yes no : ρ} (I : Nat → σ → Prop)
    (h1 : ∀ m i s, i < n → I i s → (p i = true ∧ ∃ s', F (m + 1) s (i : Int) = F m s' ((i + 1 : Nat) : Int) ∧ I (i + 1) s') ∨ (p i = false ∧ F (m + 1) s (i : Int) = no))
    (h0 : ∀ m s, I n s → F (m + 1) s (n : Int) = yes) {s : σ} (hs : I 0 s) : F (n + 1) s 0 = bif (List.range n).all p then yes else no := by
  refine loop_run0 (F := F) (n := n) (fun i s => (List.range i).all p = true ∧ I i s) (fun o => o = bif (List.range n).all p then yes else no) ?_ ?_ (s := s) ⟨by simp, hs⟩
  · intro m i s hi hI
    rcases h1 m i s hi hI.2 with ⟨hp, s', e, hI'⟩ | ⟨hp, e⟩
    · exact .inl ⟨s', e, by rw [range_all_succ, hI.1, hp]; rfl, hI'⟩
    · exact .inr (by rw [e, range_all_false hi hp]; rfl)
  · intro m s hI
    rw [hI.1]; exact h0 m s hI.2
theorem all_range {ρ : Type} {F : Nat → Int → ρ} {n : Nat} {p : Nat → Bool} {yes no : ρ}
    (h1 : ∀ m i, i < n → F (m + 1) (i : Int) = bif p i then F m ((i + 1 : Nat) : Int) else no) (h0 : ∀ m, F (m + 1) (n : Int) = yes) : F (n + 1) 0 = bif (List.range n).all p then yes else no := by
  refine all_run (F := fun m (_ : Unit) i => F m i) (fun _ _ => True) (fun m i s hi _ => ?_) (fun m _ _ => h0 m) (s := ()) trivial
  have := h1 m i hi
  cases hp : p i with
  | true => exact .inl ⟨rfl, (), by rw [this, hp]; rfl, trivial⟩
  | false => exact .inr ⟨rfl, by rw [this, hp]; rfl⟩
theorem chk {c b : Bool} {rest : Option Bool} (h1 : c = true → b = false) (h2 : c = false → rest = some b) : (bif c then some false else rest) = some b := by
  cases c with
  | true => rw [h1 rfl]; rfl
  | false => exact h2 rfl
def logB (n : V) (i : Nat) : Bool := itemB (rd (gl n 3) i) && (decide (gi (rd (gl n 3) i) 0 ≤ gi n 1) && (decide (i = 0) || decide (gi (rd (gl n 3) (i - 1)) 0 ≤ gi (rd (gl n 3) i) 0)))
def cellB (n : V) (i : Nat) : Bool :=
  bif decide (gi n 5 = 2) then decide (1 ≤ gi (rd (gl n 9) i) 0 ∧ gi (rd (gl n 9) i) 0 ≤ ((gl n 3).length : Int) + 1) && decide (0 ≤ gi (rd (gl n 10) i) 0 ∧ gi (rd (gl n 10) i) 0 ≤ ((gl n 3).length : Int))
  else decide (gi (rd (gl n 9) i) 0 = 0) && decide (gi (rd (gl n 10) i) 0 = 0)
def voteB (n : V) (i : Nat) : Bool := !(decide (gi n 5 = 0)) || !(gb (rd (gl n 8) i) 0)
structure NodeP (n : V) (k : Int) : Prop where
  k1 : 1 ≤ k
  k5 : k ≤ 5
  id0 : 0 ≤ gi n 0
  idk : gi n 0 < k
  term0 : 0 ≤ gi n 1
  term1 : gi n 1 ≤ 100000
  vote0 : -1 ≤ gi n 2
  votek : gi n 2 < k
  lead0 : -1 ≤ gi n 6
  leadk : gi n 6 < k
  len : ((gl n 3).length : Int) ≤ 400
  com0 : 0 ≤ gi n 4
  com1 : gi n 4 ≤ ((gl n 3).length : Int)
  role0 : 0 ≤ gi n 5
  role2 : gi n 5 ≤ 2
  wait0 : 0 ≤ gi n 7
  wait1 : gi n 7 ≤ 20
  lvotes : ((gl n 8).length : Int) = k
  lnext : ((gl n 9).length : Int) = k
  lmatch : ((gl n 10).length : Int) = k
  items : (List.range (gl n 3).length).all (logB n) = true
  cells : (List.range (gl n 9).length).all (cellB n) = true
  votes : (List.range (gl n 8).length).all (voteB n) = true
  stands : gi n 5 ≠ 0 → 1 ≤ gi n 1 ∧ gi n 2 = gi n 0
  leads : gi n 5 = 2 → gi n 6 = gi n 0
noncomputable def nodeB (n : V) (k : Int) : Bool := decide (NodeP n k)
theorem nodeB_false {n : V} {k : Int} (h : NodeP n k → False) : nodeB n k = false := decide_eq_false h
theorem spec_log_run {n : V} (hn : W_Node n) (servers : Int) : spec_NodeOk_l4 ((gl n 3).length + 1) servers 0 (n_impl_Node n) =
    bif (List.range (gl n 3).length).all (logB n) then some (1, servers, false, n_impl_Node n) else some (0, servers, false, n_impl_Node n) := by
  have hl := hn.2.2.2.1.1
  refine all_range (F := fun m i => spec_NodeOk_l4 m servers i (n_impl_Node n)) (fun m i hi => ?_) (fun m => ?_)
  · have e : spec_ItemOk (n_impl_Item (rd (gl n 3) i)) = some (itemB (rd (gl n 3) i)) := spec_ItemOk_eq (x := n_impl_Item (rd (gl n 3) i)) (hn.2.2.2.1.rd hi)
    show spec_NodeOk_l4 (m + 1) servers i (n_impl_Node n) = _
    rw [spec_NodeOk_l4]
    simp only [show gl (n_impl_Node n) 3 = gl n 3 from rfl, show gi (n_impl_Node n) 1 = gi n 1 from rfl, lt_nat hi, idxOk_nat hi, Int.toNat_natCast, cond_true, e, Option.bind_some, logB, wr_succ hi hl]
    cases hit : itemB (rd (gl n 3) i) with
    | false => rfl
    | true =>
      simp only [Bool.not_true, cond_false, Bool.true_and]
      by_cases h1 : gi (rd (gl n 3) i) 0 ≤ gi n 1
      · rw [show decide (gi n 1 < gi (rd (gl n 3) i) 0) = false from by simp; omega, cond_false, decide_eq_true h1, Bool.true_and]
        cases i with
        | zero => simp; rfl
        | succ j =>
          have hj : j < (gl n 3).length := by omega
          have ew : IntKind.i64.wrap (((j + 1 : Nat) : Int) - 1) = ((j : Nat) : Int) := by rw [wr64' (by omega) (by omega)]; omega
          rw [show decide ((0 : Int) < ((j + 1 : Nat) : Int)) = true from decide_eq_true (by omega), cond_true, ew, idxOk_nat hj, cond_true, Int.toNat_natCast, show decide (j + 1 = 0) = false from by simp, Bool.false_or, Nat.add_sub_cancel]
          by_cases h2 : gi (rd (gl n 3) j) 0 ≤ gi (rd (gl n 3) (j + 1)) 0
          · rw [show decide (gi (rd (gl n 3) (j + 1)) 0 < gi (rd (gl n 3) j) 0) = false from by simp; omega, decide_eq_true h2]; rfl
          · rw [show decide (gi (rd (gl n 3) (j + 1)) 0 < gi (rd (gl n 3) j) 0) = true from by simp; omega, decide_eq_false h2]; rfl
      · rw [show decide (gi n 1 < gi (rd (gl n 3) i) 0) = true from by simp; omega, decide_eq_false h1]; rfl
  · show spec_NodeOk_l4 (m + 1) servers _ (n_impl_Node n) = _
    rw [spec_NodeOk_l4]
    simp only [show gl (n_impl_Node n) 3 = gl n 3 from rfl, lt_self, cond_false]
    rfl
theorem impl_log_run {n : V} (hn : W_Node n) (servers : Int) : impl_NodeOk_l5 ((gl n 3).length + 1) servers 1 (gl n 3) ((gl n 3).length : Int) 0 (n_impl_Node n) =
    bif (List.range (gl n 3).length).all (logB n) then some (1, servers, false, n_impl_Node n) else some (0, servers, false, n_impl_Node n) := by
  have hl := hn.2.2.2.1.1
  refine all_run (F := fun m t i => impl_NodeOk_l5 m servers t (gl n 3) ((gl n 3).length : Int) i (n_impl_Node n)) (fun i t => t = if i = 0 then 1 else gi (rd (gl n 3) (i - 1)) 0) (fun m i t hi ht => ?_) (fun m t ht => ?_) rfl
  · have e : impl_ItemOk (n_impl_Item (rd (gl n 3) i)) = some (itemB (rd (gl n 3) i)) := impl_ItemOk_eq (x := n_impl_Item (rd (gl n 3) i)) (hn.2.2.2.1.rd hi)
    have e0 : impl_NodeOk_l5 (m + 1) servers t (gl n 3) ((gl n 3).length : Int) i (n_impl_Node n) = bif (!(itemB (rd (gl n 3) i))) then some (0, servers, false, n_impl_Node n) else bif (!(decide (t ≤ gi (rd (gl n 3) i) 0 ∧ gi (rd (gl n 3) i) 0 ≤ gi n 1))) then some (0, servers, false, n_impl_Node n)
        else impl_NodeOk_l5 m servers (gi (rd (gl n 3) i) 0) (gl n 3) ((gl n 3).length : Int) ((i + 1 : Nat) : Int) (n_impl_Node n) := by
      rw [impl_NodeOk_l5]
      simp only [lt_nat hi, idxOk_nat hi, Int.toNat_natCast, cond_true, e, Option.bind_some, wr_succ hi hl, within_eq]
      rfl
    have hterm : itemB (rd (gl n 3) i) = true → 1 ≤ gi (rd (gl n 3) i) 0 := fun h => by
      simp only [itemB, Bool.and_eq_true, decide_eq_true_eq] at h; exact h.1.1
    cases hp : logB n i with
    | true =>
      refine .inl ⟨rfl, _, ?_, by simp; rfl⟩
      simp only [logB, Bool.and_eq_true, decide_eq_true_eq, Bool.or_eq_true] at hp
      obtain ⟨p1, p2, p3⟩ := hp
      rw [e0, p1]
      have : t ≤ gi (rd (gl n 3) i) 0 ∧ gi (rd (gl n 3) i) 0 ≤ gi n 1 := by
        refine ⟨?_, p2⟩
        subst ht
        have := hterm p1
        split
        · exact this
        · rename_i h; rcases p3 with h' | h'
          · exact absurd h' h
          · exact h'
      rw [decide_eq_true this]; rfl
    | false =>
      refine .inr ⟨rfl, ?_⟩
      rw [e0]
      cases p1 : itemB (rd (gl n 3) i) with
      | false => rfl
      | true =>
        have : ¬ (t ≤ gi (rd (gl n 3) i) 0 ∧ gi (rd (gl n 3) i) 0 ≤ gi n 1) := by
          rintro ⟨h1, h2⟩
          rw [logB, p1, decide_eq_true h2, Bool.true_and, Bool.true_and] at hp
          subst ht
          by_cases h0 : i = 0
          · simp [h0] at hp
          · rw [if_neg h0] at h1
            simp [h1] at hp
        rw [decide_eq_false this]; rfl
  · show impl_NodeOk_l5 (m + 1) servers t _ _ _ (n_impl_Node n) = _
    rw [impl_NodeOk_l5]
    simp only [lt_self, cond_false]
    rfl
theorem lt_not (a b : Int) : decide (a < b) = !decide (b ≤ a) := by by_cases h : a < b <;> simp [h] <;> omega
theorem spec_cell_run {n : V} (hn : W_Node n) {N : Nat} (h8 : (gl n 8).length = N) (h9 : (gl n 9).length = N) (h10 : (gl n 10).length = N) (hlog : (gl n 3).length ≤ 400) : spec_NodeOk_l11 (N + 1) (N : Int) 0 (n_impl_Node n) =
    bif (List.range N).all (fun i => cellB n i && voteB n i) then some (1, false, n_impl_Node n) else some (0, false, n_impl_Node n) := by
  have hl := hn.2.2.2.2.2.2.2.2.1.1
  rw [h8] at hl
  refine all_range (F := fun m i => spec_NodeOk_l11 m (N : Int) i (n_impl_Node n)) (fun m i hi => ?_) (fun m => ?_)
  · have i8 : idxOk (i : Int) (gl n 8).length = true := idxOk_nat (by omega)
    have i9 : idxOk (i : Int) (gl n 9).length = true := idxOk_nat (by omega)
    have i10 : idxOk (i : Int) (gl n 10).length = true := idxOk_nat (by omega)
    show spec_NodeOk_l11 (m + 1) (N : Int) i (n_impl_Node n) = _
    rw [spec_NodeOk_l11]
    simp only [show ∀ j, gl (n_impl_Node n) 3 = gl n 3 from fun _ => rfl, show gl (n_impl_Node n) 8 = gl n 8 from rfl, show gl (n_impl_Node n) 9 = gl n 9 from rfl, show gl (n_impl_Node n) 10 = gl n 10 from rfl, show gi (n_impl_Node n) 5 = gi n 5 from rfl, lt_nat hi, i8, i9, i10, Int.toNat_natCast, cond_true, wr_succ hi hl, show n_impl_Node (n_impl_Node n) = n_impl_Node n from rfl, show gl (n_impl_Node n) 3 = gl n 3 from rfl]
    rw [wr64' (n := ((gl n 3).length : Int) + 1) (by omega) (by omega)]
    simp only [cellB, voteB]
    generalize spec_NodeOk_l11 m _ _ _ = R
    generalize gi (rd (gl n 9) i) 0 = a
    generalize gi (rd (gl n 10) i) 0 = b
    generalize gb (rd (gl n 8) i) 0 = v
    generalize ((gl n 3).length : Int) = L
    by_cases h2 : gi n 5 = 2
    · have h0 : ¬ gi n 5 = 0 := by omega
      simp only [h2, decide_true, cond_true, Bool.not_true, cond_false, show decide ((2 : Int) = 0) = false from rfl, Bool.not_false, Bool.true_or, Bool.and_true]
      simp only [lt_not, Bool.decide_and]
      cases decide (1 ≤ a) <;> cases decide (a ≤ L + 1) <;> cases decide (0 ≤ b) <;> cases decide (b ≤ L) <;> rfl
    · simp only [h2, decide_false, cond_false, Bool.not_false, cond_true]
      by_cases a1 : a = 0 <;> by_cases a2 : b = 0 <;> by_cases a3 : gi n 5 = 0 <;> cases v <;> simp [a1, a2, a3]
  · show spec_NodeOk_l11 (m + 1) _ _ (n_impl_Node n) = _
    rw [spec_NodeOk_l11]
    simp only [lt_self, cond_false]
    rfl
theorem impl_cell_run {n : V} (hn : W_Node n) {N : Nat} (h8 : (gl n 8).length = N) (h9 : (gl n 9).length = N) (h10 : (gl n 10).length = N) (hlog : (gl n 3).length ≤ 400) : impl_NodeOk_l16 (N + 1) (N : Int) 0 (n_impl_Node n) =
    bif (List.range N).all (cellB n) then some (1, false) else some (0, false) := by
  have hl := hn.2.2.2.2.2.2.2.2.1.1
  rw [h8] at hl
  refine all_range (F := fun m i => impl_NodeOk_l16 m (N : Int) i (n_impl_Node n)) (fun m i hi => ?_) (fun m => ?_)
  · have i9 : idxOk (i : Int) (gl n 9).length = true := idxOk_nat (by omega)
    have i10 : idxOk (i : Int) (gl n 10).length = true := idxOk_nat (by omega)
    show impl_NodeOk_l16 (m + 1) (N : Int) i (n_impl_Node n) = _
    rw [impl_NodeOk_l16]
    simp only [show gl (n_impl_Node n) 9 = gl n 9 from rfl, show gl (n_impl_Node n) 10 = gl n 10 from rfl, show gi (n_impl_Node n) 5 = gi n 5 from rfl, lt_nat hi, i9, i10, Int.toNat_natCast, cond_true, wr_succ hi hl, show n_impl_Node (n_impl_Node n) = n_impl_Node n from rfl, show gl (n_impl_Node n) 3 = gl n 3 from rfl]
    rw [wr64' (n := ((gl n 3).length : Int) + 1) (by omega) (by omega)]
    simp only [cellB, within_eq]
    generalize impl_NodeOk_l16 m _ _ _ = R
    generalize gi (rd (gl n 9) i) 0 = a
    generalize gi (rd (gl n 10) i) 0 = b
    generalize ((gl n 3).length : Int) = L
    by_cases h2 : gi n 5 = 2
    · simp only [h2, decide_true, cond_true, Bool.not_true, cond_false]
      by_cases a1 : 1 ≤ a ∧ a ≤ L + 1 <;> by_cases a2 : 0 ≤ b ∧ b ≤ L <;> simp [a1, a2]
    · simp only [h2, decide_false, cond_false, Bool.not_false, cond_true]
      by_cases a1 : a = 0 <;> by_cases a2 : b = 0 <;> simp [a1, a2]
  · show impl_NodeOk_l16 (m + 1) _ _ (n_impl_Node n) = _
    rw [impl_NodeOk_l16]
    simp only [lt_self, cond_false]
theorem bools_W (l : List V) : True := trivial
theorem contains_eq {l : List V} (hl : l.length ≤ 9223372036854775807) : slices_Contains_bool l true = some (!(List.range l.length).all (fun i => !gb (rd l i) 0)) := by
  unfold slices_Contains_bool slices_Index_bool
  rw [fuel_eq]
  have key : (fun o : Option (Nat × Int) => ∃ p, o = some p ∧ ((p.1 = 1 ∧ (List.range l.length).all (fun i => !gb (rd l i) 0) = true) ∨ (p.1 = 0 ∧ 0 ≤ p.2 ∧ (List.range l.length).all (fun i => !gb (rd l i) 0) = false))) (slices_Index_bool_l2 (l.length + 1) l true (l.length : Int) 0) := by
    refine loop_run0 (F := fun m (_ : Unit) i => slices_Index_bool_l2 m l true (l.length : Int) i) (n := l.length) (fun i _ => (List.range i).all (fun i => !gb (rd l i) 0) = true) (fun o : Option (Nat × Int) => ∃ p, o = some p ∧ ((p.1 = 1 ∧ (List.range l.length).all (fun i => !gb (rd l i) 0) = true) ∨ (p.1 = 0 ∧ 0 ≤ p.2 ∧ (List.range l.length).all (fun i => !gb (rd l i) 0) = false))) ?_ ?_ (s := ()) (by simp)
    · intro m i s hi hI
      simp only [slices_Index_bool_l2, lt_nat hi, idxOk_nat hi, Int.toNat_natCast, cond_true, wr_succ hi hl]
      cases hv : gb (rd l i) 0 with
      | true => exact .inr ⟨(0, (i : Int)), rfl, .inr ⟨rfl, by simp, range_all_false (p := fun i => !gb (rd l i) 0) hi (by simp [hv])⟩⟩
      | false => exact .inl ⟨(), rfl, by rw [range_all_succ, hI, hv]; rfl⟩
    · intro m s hI
      exact ⟨(1, 0), by simp only [slices_Index_bool_l2, lt_self, cond_false], .inl ⟨rfl, hI⟩⟩
  obtain ⟨p, e, hp⟩ := key
  rw [e, Option.bind_some]
  rcases hp with ⟨p1, p2⟩ | ⟨p1, p2, p3⟩
  · rw [p1, p2]; rfl
  · rw [p1, p3]
    show some (decide (0 ≤ p.2)) = _
    rw [decide_eq_true p2]; rfl
end Go.Eng.R
open Go Go.Eng
namespace Go.Eng.R
open Classical
theorem range_and (p q : Nat → Bool) (n : Nat) : (List.range n).all (fun i => p i && q i) = ((List.range n).all p && (List.range n).all q) := by
  induction n with
  | zero => rfl
  | succ n ih => rw [range_all_succ, range_all_succ, range_all_succ, ih]; cases (List.range n).all p <;> cases (List.range n).all q <;> cases p n <;> cases q n <;> rfl
theorem servers_eq (k : Int) : spec_l4servers k = decide (1 ≤ k ∧ k ≤ 5) := by
  unfold spec_l4servers; by_cases h : 1 ≤ k <;> simp [h]
theorem term_eq (k : Int) : spec_l3term k = decide (0 ≤ k ∧ k ≤ 100000) := by
  unfold spec_l3term; by_cases h : 0 ≤ k <;> simp [h]
theorem who_eq (n k : Int) : spec_l4who n k = decide (-1 ≤ n ∧ n < k) := by
  unfold spec_l4who; by_cases h : -1 ≤ n <;> simp [h]
theorem not_of {p : Prop} [Decidable p] (h : (!decide p) = true) : ¬ p := by simpa using h
theorem of_not {p : Prop} [Decidable p] (h : (!decide p) = false) : p := by simpa using h
theorem yes_of {p : Prop} [Decidable p] (h : decide p = true) : p := by simpa using h
theorem no_of {p : Prop} [Decidable p] (h : decide p = false) : ¬ p := by simpa using h
theorem spec_NodeOk_eq {n : V} (hn : W_Node n) (k : Int) : spec_NodeOk (n_impl_Node n) k = some (nodeB n k) := by
  unfold spec_NodeOk
  simp only [servers_eq, term_eq, who_eq, fuel_eq, show n_impl_Node (n_impl_Node n) = n_impl_Node n from rfl]
  show (bif _ then _ else _) = _
  refine chk (fun h => nodeB_false fun p => not_of h ⟨p.k1, p.k5⟩) fun h => ?_
  obtain ⟨k1, k5⟩ := of_not h
  refine chk (fun h => nodeB_false fun p => absurd (yes_of h) (Int.not_lt.2 p.id0)) fun h => ?_
  have id0 := no_of h
  refine chk (fun h => nodeB_false fun p => absurd (yes_of h) (Int.not_le.2 p.idk)) fun h => ?_
  have idk := no_of h
  refine chk (fun h => nodeB_false fun p => not_of h ⟨p.term0, p.term1⟩) fun h => ?_
  have term := of_not h
  refine chk (fun h => nodeB_false fun p => not_of h ⟨p.vote0, p.votek⟩) fun h => ?_
  have vote := of_not h
  refine chk (fun h => nodeB_false fun p => absurd (yes_of h) (Int.not_lt.2 p.len)) fun h => ?_
  have len := no_of h
  refine chk (fun h => nodeB_false fun p => absurd (yes_of h) (Int.not_lt.2 p.com0)) fun h => ?_
  have com0 := no_of h
  refine chk (fun h => nodeB_false fun p => absurd (yes_of h) (Int.not_lt.2 p.com1)) fun h => ?_
  have com1 := no_of h
  refine chk (fun h => nodeB_false fun p => absurd (yes_of h) (Int.not_lt.2 p.role0)) fun h => ?_
  have role0 := no_of h
  refine chk (fun h => nodeB_false fun p => absurd (yes_of h) (Int.not_lt.2 p.role2)) fun h => ?_
  have role2 := no_of h
  refine chk (fun h => nodeB_false fun p => not_of h ⟨p.lead0, p.leadk⟩) fun h => ?_
  have lead := of_not h
  refine chk (fun h => nodeB_false fun p => absurd (yes_of h) (Int.not_lt.2 p.wait0)) fun h => ?_
  have wait0 := no_of h
  refine chk (fun h => nodeB_false fun p => absurd (yes_of h) (Int.not_lt.2 p.wait1)) fun h => ?_
  have wait1 := no_of h
  refine chk (fun h => nodeB_false fun p => not_of h p.lvotes) fun h => ?_
  have lvotes := of_not h
  refine chk (fun h => nodeB_false fun p => not_of h p.lnext) fun h => ?_
  have lnext := of_not h
  refine chk (fun h => nodeB_false fun p => not_of h p.lmatch) fun h => ?_
  have lmatch := of_not h
  clear h
  have l8 : ((gl n 8).length : Int) = k := lvotes
  have l9 : ((gl n 9).length : Int) = k := lnext
  have l10 : ((gl n 10).length : Int) = k := lmatch
  have hlen : (gl n 3).length ≤ 400 := by
    have : ¬ (400 : Int) < ((gl n 3).length : Int) := len
    omega
  rw [show gl (n_impl_Node n) 3 = gl n 3 from rfl, spec_log_run hn k]
  cases hit : (List.range (gl n 3).length).all (logB n) with
  | false => exact (congrArg some (nodeB_false fun p => by rw [p.items] at hit; cases hit)).symm
  | true =>
    have hcell := spec_cell_run hn (N := (gl n 8).length) rfl (by omega) (by omega) hlen
    rw [l8] at hcell
    simp only [cond_true, Option.bind_some, show Nat.beq 1 0 = false from rfl, cond_false]
    rw [show (k - 0).toNat + 1 = (gl n 8).length + 1 from by omega, show gi (n_impl_Node n) 5 = gi n 5 from rfl, show gi (n_impl_Node n) 1 = gi n 1 from rfl, show gi (n_impl_Node n) 2 = gi n 2 from rfl, show gi (n_impl_Node n) 0 = gi n 0 from rfl,
      show n_impl_Node (n_impl_Node n) = n_impl_Node n from rfl, hcell, range_and]
    have fin : ∀ (c v : Bool), (List.range (gl n 8).length).all (cellB n) = c → (List.range (gl n 8).length).all (voteB n) = v → (gi n 5 ≠ 0 → 1 ≤ gi n 1 ∧ gi n 2 = gi n 0) →
        (Option.bind (bif (c && v) then some (1, false, n_impl_Node n) else some (0, false, n_impl_Node n)) fun r29 => bif (Nat.beq r29.1 0) then some r29.2.1 else bif (!(decide ((gi r29.2.2 5) = 2))) then some true else some (decide ((gi r29.2.2 6) = (gi r29.2.2 0)))) = some (nodeB n k) := by
      intro c v hc hv hst
      cases c with
      | false => exact (congrArg some (nodeB_false fun p => by have := p.cells; rw [show (gl n 9).length = (gl n 8).length from by omega, hc] at this; cases this)).symm
      | true =>
        cases v with
        | false => exact (congrArg some (nodeB_false fun p => by have := p.votes; rw [hv] at this; cases this)).symm
        | true =>
          show (bif (!(decide (gi n 5 = 2))) then some true else some (decide (gi n 6 = gi n 0))) = _
          have mk : (gi n 5 = 2 → gi n 6 = gi n 0) → nodeB n k = true := fun hl => decide_eq_true
            { k1 := k1, k5 := k5, id0 := Int.not_lt.1 id0, idk := Int.not_le.1 idk, term0 := term.1, term1 := term.2, vote0 := vote.1, votek := vote.2, lead0 := lead.1, leadk := lead.2,
              len := by omega, com0 := Int.not_lt.1 com0, com1 := Int.not_lt.1 com1, role0 := Int.not_lt.1 role0, role2 := Int.not_lt.1 role2, wait0 := Int.not_lt.1 wait0, wait1 := Int.not_lt.1 wait1,
              lvotes := l8, lnext := l9, lmatch := l10, items := hit, cells := by rw [show (gl n 9).length = (gl n 8).length from by omega]; exact hc, votes := hv, stands := hst, leads := hl }
          by_cases h2 : gi n 5 = 2
          · by_cases h6 : gi n 6 = gi n 0
            · rw [mk fun _ => h6]; simp [h2, h6]
            · rw [nodeB_false fun p => h6 (p.leads h2)]; simp [h2, h6]
          · rw [mk fun h => absurd h h2]; simp [h2]
    by_cases h5 : gi n 5 = 0
    · simp only [h5, decide_true, Bool.not_true, cond_false]
      have := fin _ _ rfl rfl (fun h => absurd h5 h)
      exact this
    · simp only [h5, decide_false, Bool.not_false, cond_true]
      refine chk (fun h => nodeB_false fun p => absurd (yes_of h) (Int.not_lt.2 (p.stands h5).1)) fun h => ?_
      have s1 := no_of h
      refine chk (fun h => nodeB_false fun p => not_of h (p.stands h5).2) fun h => ?_
      have s2 := of_not h
      exact fin _ _ rfl rfl (fun _ => ⟨Int.not_lt.1 s1, s2⟩)
theorem server_eq (i k : Int) (hk : I64 k) : impl_isServer i k = (decide (1 ≤ k ∧ k ≤ 5) && decide (0 ≤ i ∧ i < k)) := by
  unfold impl_isServer
  simp only [within_eq]
  by_cases h : 1 ≤ k ∧ k ≤ 5
  · rw [wr64' (by omega) (by omega), decide_eq_true h]
    simp only [cond_true, Bool.true_and]
    congr 1
    apply propext
    omega
  · rw [decide_eq_false h]; rfl
theorem chk2 {c b : Bool} {rest : Option Bool} (h1 : c = true → b = false) (h2 : c = false → rest = some b) : (bif c then some false else rest) = some b := chk h1 h2
theorem wrap_pred (k : Int) (h1 : 1 ≤ k) (h5 : k ≤ 5) : IntKind.i64.wrap (k - 1) = k - 1 := wr64' (by omega) (by omega)
theorem impl_NodeOk_eq {n : V} (hn : W_Node n) (k : Int) (hk : I64 k) : impl_NodeOk (n_impl_Node n) k = some (nodeB n k) := by
  unfold impl_NodeOk
  simp only [server_eq _ k hk, within_eq, fuel_eq, show n_impl_Node (n_impl_Node n) = n_impl_Node n from rfl]
  refine chk (fun h => nodeB_false fun p => ?_) fun h => ?_
  · have a : decide (1 ≤ k ∧ k ≤ 5) = true := decide_eq_true ⟨p.k1, p.k5⟩
    have b : decide (0 ≤ gi (n_impl_Node n) 0 ∧ gi (n_impl_Node n) 0 < k) = true := decide_eq_true ⟨p.id0, p.idk⟩
    rw [a, b] at h; cases h
  simp only [Bool.not_eq_false', Bool.and_eq_true, decide_eq_true_eq] at h
  obtain ⟨⟨k1, k5⟩, id0, idk⟩ := h
  rw [wrap_pred k k1 k5]
  refine chk (fun h => nodeB_false fun p => not_of h ⟨p.term0, p.term1⟩) fun h => ?_
  have term := of_not h
  refine chk (fun h => nodeB_false fun p => not_of h ⟨p.vote0, by have := p.votek; show gi n 2 ≤ k - 1; omega⟩) fun h => ?_
  have vote := of_not h
  refine chk (fun h => nodeB_false fun p => not_of h ⟨p.lead0, by have := p.leadk; show gi n 6 ≤ k - 1; omega⟩) fun h => ?_
  have lead := of_not h
  refine chk (fun h => nodeB_false fun p => absurd (yes_of h) (Int.not_lt.2 p.len)) fun h => ?_
  have len := no_of h
  clear h
  have hlen : (gl n 3).length ≤ 400 := by
    have : ¬ (400 : Int) < ((gl n 3).length : Int) := len
    omega
  have vote : -1 ≤ gi n 2 ∧ gi n 2 ≤ k - 1 := vote
  have lead : -1 ≤ gi n 6 ∧ gi n 6 ≤ k - 1 := lead
  rw [show gl (n_impl_Node n) 3 = gl n 3 from rfl, impl_log_run hn k]
  cases hit : (List.range (gl n 3).length).all (logB n) with
  | false => exact (congrArg some (nodeB_false fun p => by rw [p.items] at hit; cases hit)).symm
  | true =>
    simp only [cond_true, Option.bind_some, show Nat.beq 1 0 = false from rfl, cond_false]
    rw [show gl (n_impl_Node n) 3 = gl n 3 from rfl, show gl (n_impl_Node n) 8 = gl n 8 from rfl, show gl (n_impl_Node n) 9 = gl n 9 from rfl, show gl (n_impl_Node n) 10 = gl n 10 from rfl, show gi (n_impl_Node n) 4 = gi n 4 from rfl, show gi (n_impl_Node n) 5 = gi n 5 from rfl, show gi (n_impl_Node n) 7 = gi n 7 from rfl,
      show gi (n_impl_Node n) 1 = gi n 1 from rfl, show gi (n_impl_Node n) 2 = gi n 2 from rfl, show gi (n_impl_Node n) 0 = gi n 0 from rfl, show gi (n_impl_Node n) 6 = gi n 6 from rfl, show n_impl_Node (n_impl_Node n) = n_impl_Node n from rfl]
    refine chk (fun h => nodeB_false fun p => not_of h ⟨p.com0, p.com1⟩) fun h => ?_
    have com := of_not h
    refine chk (fun h => nodeB_false fun p => not_of h ⟨p.role0, p.role2⟩) fun h => ?_
    have role := of_not h
    refine chk (fun h => nodeB_false fun p => not_of h ⟨p.wait0, p.wait1⟩) fun h => ?_
    have wait := of_not h
    refine chk (fun h => nodeB_false fun p => not_of h p.lvotes) fun h => ?_
    have l8 := of_not h
    refine chk (fun h => nodeB_false fun p => not_of h p.lnext) fun h => ?_
    have l9 := of_not h
    refine chk (fun h => nodeB_false fun p => not_of h p.lmatch) fun h => ?_
    have l10 := of_not h
    clear h
    have hcell := impl_cell_run hn (N := (gl n 8).length) rfl (by omega) (by omega) hlen
    rw [l8] at hcell
    rw [show (k - 0).toNat + 1 = (gl n 8).length + 1 from by omega, hcell, contains_eq hn.2.2.2.2.2.2.2.2.1.1]
    have fin : (gi n 5 = 0 → (List.range (gl n 8).length).all (fun i => !gb (rd (gl n 8) i) 0) = true) → (gi n 5 ≠ 0 → 1 ≤ gi n 1 ∧ gi n 2 = gi n 0) → (gi n 5 = 2 → gi n 6 = gi n 0) →
        (Option.bind (bif (List.range (gl n 8).length).all (cellB n) then some (1, false) else some (0, false)) fun r51 : Nat × Bool => bif (Nat.beq r51.1 0) then some r51.2 else some true) = some (nodeB n k) := by
      intro hv hst hld
      cases hc : (List.range (gl n 8).length).all (cellB n) with
      | false => exact (congrArg some (nodeB_false fun p => by have := p.cells; rw [show (gl n 9).length = (gl n 8).length from by omega, hc] at this; cases this)).symm
      | true =>
        have hcells : (List.range (gl n 9).length).all (cellB n) = true := by rw [show (gl n 9).length = (gl n 8).length from by omega]; exact hc
        have hvotes : (List.range (gl n 8).length).all (voteB n) = true := by
          by_cases h5 : gi n 5 = 0
          · rw [← hv h5]; congr 1; funext i; simp [voteB, h5]
          · rw [List.all_eq_true]; intro i _; simp [voteB, h5]
        refine (congrArg some (decide_eq_true ?_)).symm
        exact { k1 := k1, k5 := k5, id0 := id0, idk := idk, term0 := term.1, term1 := term.2, vote0 := vote.1, votek := (by omega), lead0 := lead.1, leadk := (by omega),
                    len := (by omega), com0 := com.1, com1 := com.2, role0 := role.1, role2 := role.2, wait0 := wait.1, wait1 := wait.2,
                    lvotes := l8, lnext := l9, lmatch := l10, items := hit, cells := hcells, votes := hvotes, stands := hst, leads := hld }
    by_cases h5 : gi n 5 = 0
    · simp only [h5, decide_true, Bool.not_true, cond_false, cond_true, Option.bind_some]
      refine chk (fun h => nodeB_false fun p => ?_) fun h => ?_
      · have := p.votes
        have e : (List.range (gl n 8).length).all (voteB n) = (List.range (gl n 8).length).all (fun i => !gb (rd (gl n 8) i) 0) := by congr 1; funext i; simp [voteB, h5]
        rw [e] at this; rw [this] at h; cases h
      · simp only [show decide ((0 : Int) = 2) = false from rfl, cond_false]
        exact fin (fun _ => by simpa using h) (fun h => absurd h5 h) (fun h => by omega)
    · simp only [h5, decide_false, Bool.not_false, cond_true, cond_false]
      refine chk (fun h => nodeB_false fun p => absurd (yes_of h) (Int.not_lt.2 (p.stands h5).1)) fun h => ?_
      have s1 := no_of h
      refine chk (fun h => nodeB_false fun p => not_of h (p.stands h5).2) fun h => ?_
      have s2 := of_not h
      by_cases h2 : gi n 5 = 2
      · simp only [h2, decide_true, cond_true]
        refine chk (fun h => nodeB_false fun p => not_of h (p.leads h2)) fun h => ?_
        exact fin (fun h => absurd h h5) (fun _ => ⟨Int.not_lt.1 s1, s2⟩) (fun _ => of_not h)
      · simp only [h2, decide_false, cond_false]
        exact fin (fun h => absurd h h5) (fun _ => ⟨Int.not_lt.1 s1, s2⟩) (fun h => absurd h h2)
end Go.Eng.R
open Go Go.Eng
namespace Go.Eng.R
theorem app_loop {F : Nat → List V → Int → Option (List V)} {a : List V} {f : V → V}
    (h1 : ∀ m (i : Nat) r, i < a.length → r.length = i → F (m + 1) r (i : Int) = F m (r ++ [f (rd a i)]) ((i + 1 : Nat) : Int)) (h0 : ∀ m r, F (m + 1) r (a.length : Int) = some r) : F (a.length + 1) [] 0 = some (a.map f) := by
  refine loop_run0 (F := F) (n := a.length) (fun i r => r = (a.take i).map f) (fun o => o = some (a.map f)) ?_ ?_ (by simp)
  · intro m i s hi hI
    refine .inl ⟨_, h1 m i s hi (by rw [hI]; simp; omega), ?_⟩
    have : a[i]? = some (rd a i) := by simp [rd, List.getD, hi]
    rw [hI, List.take_add_one, this]; simp
  · intro m s hI
    rw [h0, hI, List.take_length]
theorem roomyB {n b : Nat} (h : n * b ≤ 140737488355328) (h1 : n ≤ 9223372036854775807) : (roomy n b && true) = true := by rw [roomy_of h h1]; rfl
theorem z_item_le {l : List V} {B : Nat} (h : zS z_Item l ≤ B) : l.length ≤ B ∧ ∀ i, i < l.length → (gl (rd l i) 4).length ≤ B ∧ (gl (rd l i) 5).length ≤ B := by
  refine ⟨by simp only [zS] at h; omega, fun i hi => ?_⟩
  have h1 := sum_take_succ z_Item hi
  have h2 := sumL_take_le z_Item l (i + 1)
  simp only [zS] at h
  have h3 : z_Item (rd l i) = zS z0 (gl (rd l i) 4) + zS z0 (gl (rd l i) 5) := rfl
  rw [zS_z0, zS_z0] at h3
  omega
theorem spec_ownItems_eq {l : List V} (hl : LW W_Item l) (hz : zS z_Item l ≤ 4000000) : spec_l3ownItems l = some (l.map n_impl_Item) := by
  obtain ⟨z1, z2⟩ := z_item_le hz
  unfold spec_l3ownItems
  rw [fuel_eq, app_loop (F := fun m r i => spec_l3ownItems_l3 m l i r) (f := n_impl_Item) ?_ ?_]
  · rfl
  · intro m i r hi hr
    have h1 := z2 i hi
    simp only [spec_l3ownItems_l3, lt_nat hi, idxOk_nat hi, Int.toNat_natCast, cond_true, spec_l3ownItem, show gl (n_impl_Item (rd l i)) 4 = gl (rd l i) 4 from rfl, show gl (n_impl_Item (rd l i)) 5 = gl (rd l i) 5 from rfl]
    rw [roomyB (n := 0 + (gl (rd l i) 4).length) (by omega) (by omega), roomyB (n := 0 + (gl (rd l i) 5).length) (by omega) (by omega), roomyB (n := r.length + 1) (by omega) (by omega)]
    simp only [cond_true, Option.bind_some, wr_succ hi hl.1]
    rfl
  · intro m r; simp only [spec_l3ownItems_l3, lt_self, cond_false]
theorem impl_clone_eq {l : List V} (h : l.length ≤ 4000000) : slices_Clone_byte l = some l := by
  unfold slices_Clone_byte
  rw [roomyB (by omega) (by omega)]; rfl
theorem impl_ownItems_eq {l : List V} (hl : LW W_Item l) (hz : zS z_Item l ≤ 4000000) : impl_ownItems l = some (l.map n_impl_Item) := by
  obtain ⟨z1, z2⟩ := z_item_le hz
  unfold impl_ownItems
  rw [fuel_eq, app_loop (F := fun m r i => impl_ownItems_l3 m l (l.length : Int) i r) (f := n_impl_Item) ?_ ?_]
  · rfl
  · intro m i r hi hr
    have h1 := z2 i hi
    simp only [impl_ownItems_l3, lt_nat hi, idxOk_nat hi, Int.toNat_natCast, cond_true, impl_Cmd_own, impl_Op_own, gl_c0, gl_cs, gi_c0, gi_cs, impl_clone_eq h1.1, impl_clone_eq h1.2, Option.bind_some]
    rw [roomyB (n := r.length + 1) (by omega) (by omega)]
    simp only [cond_true, wr_succ hi hl.1]
    rfl
  · intro m r; simp only [impl_ownItems_l3, lt_self, cond_false]
def zeroN : V := V.agg [(V.int .i64 0), (V.int .i64 0), (V.int .i64 0), (V.inl t_impl_Item []), (V.int .i64 0), (V.int .i64 0), (V.int .i64 0), (V.int .i64 0), (V.inl t_bool []), (V.inl t_int' []), (V.inl t_int' [])]
theorem I64_lit {n : Int} (h : -9223372036854775808 ≤ n) (h' : n ≤ 9223372036854775807) : I64 n := ⟨h, h'⟩
theorem I64_0 : I64 0 := ⟨by decide, by decide⟩
theorem I64_m1 : I64 (-1) := ⟨by decide, by decide⟩
theorem zeroN_W : W_Node zeroN := ⟨⟨by decide, by decide⟩, ⟨by decide, by decide⟩, ⟨by decide, by decide⟩, LW.nil, ⟨by decide, by decide⟩, ⟨by decide, by decide⟩, ⟨by decide, by decide⟩, ⟨by decide, by decide⟩, LW.nil, LW.nil, LW.nil⟩
theorem LW_rep {w : V → Prop} {x : V} {k : Nat} (h : w x) (hk : k ≤ 9223372036854775807) : LW w (List.replicate k x) := ⟨by simpa using hk, fun y hy => by rw [List.eq_of_mem_replicate hy]; exact h⟩
end Go.Eng.R
open Go Go.Eng
namespace Go.Eng.R
def termN (n : V) (p : Nat) : Int := bif decide (1 ≤ p ∧ p ≤ (gl n 3).length) then gi (rd (gl n 3) (p - 1)) 0 else 0
theorem impl_termAt_eq {n : V} {p : Nat} (hl : (gl n 3).length ≤ 9223372036854775807) (hp : p ≤ 9223372036854775807) : impl_Node_termAt (n_impl_Node n) (p : Int) = some (termN n p) := by
  unfold impl_Node_termAt termN
  rw [show gl (n_impl_Node n) 3 = gl n 3 from rfl, within_eq]
  by_cases h : 1 ≤ p ∧ p ≤ (gl n 3).length
  · rw [decide_eq_true (p := (1 : Int) ≤ (p : Int) ∧ (p : Int) ≤ ((gl n 3).length : Int)) (by omega), decide_eq_true h, wr64' (by omega) (by omega), show ((p : Int) - 1) = ((p - 1 : Nat) : Int) from by omega, idxOk_nat (by omega), Int.toNat_natCast]
    rfl
  · rw [decide_eq_false (p := (1 : Int) ≤ (p : Int) ∧ (p : Int) ≤ ((gl n 3).length : Int)) (by omega), decide_eq_false h]
    rfl
theorem spec_termAt_eq {n : V} {p : Nat} (hl : (gl n 3).length ≤ 9223372036854775807) (hp : p ≤ 9223372036854775807) : spec_l4termAt (n_impl_Node n) (p : Int) = some (termN n p) := by
  unfold spec_l4termAt termN
  rw [show gl (n_impl_Node n) 3 = gl n 3 from rfl]
  by_cases h1 : 1 ≤ p
  · by_cases h2 : p ≤ (gl n 3).length
    · rw [decide_eq_false (p := (p : Int) < 1) (by omega), decide_eq_false (p := ((gl n 3).length : Int) < (p : Int)) (by omega), decide_eq_true (p := 1 ≤ p ∧ p ≤ (gl n 3).length) ⟨h1, h2⟩, wr64' (by omega) (by omega), show ((p : Int) - 1) = ((p - 1 : Nat) : Int) from by omega, idxOk_nat (by omega), Int.toNat_natCast]
      rfl
    · rw [decide_eq_false (p := (p : Int) < 1) (by omega), decide_eq_true (p := ((gl n 3).length : Int) < (p : Int)) (by omega), decide_eq_false (p := 1 ≤ p ∧ p ≤ (gl n 3).length) (by omega)]
      rfl
  · rw [decide_eq_true (p := (p : Int) < 1) (by omega), decide_eq_false (p := 1 ≤ p ∧ p ≤ (gl n 3).length) (by omega)]
    rfl
def itemsN (n : V) (p : Nat) : List V := (((gl n 3).drop p).take 4).map n_impl_Item
def prevN (n : V) (to : Nat) : Nat := (gi (rd (gl n 9) to) 0 - 1).toNat
def addN (n : V) (to : Nat) : V :=
  V.agg [(V.int .i64 2), (V.int .i64 (gi n 0)), (V.int .i64 (to : Int)), (V.int .i64 (gi n 1)), (V.int .i64 ((prevN n to : Nat) : Int)), (V.int .i64 (termN n (prevN n to))), (V.inl t_impl_Item (itemsN n (prevN n to))), (V.int .i64 (gi n 4)), (V.bool false)]
structure NextOk (n : V) (to : Nat) : Prop where
  lt : to < (gl n 9).length
  lo : 1 ≤ gi (rd (gl n 9) to) 0
  hi : gi (rd (gl n 9) to) 0 ≤ ((gl n 3).length : Int) + 1
  len : (gl n 3).length ≤ 401
theorem take_rd {l : List V} {i : Nat} (h : i < l.length) : l.take (i + 1) = l.take i ++ [rd l i] := by
  rw [List.take_add_one]
  have : l[i]? = some (rd l i) := by simp [rd, List.getD, h]
  rw [this]; rfl
theorem rd_drop (l : List V) (p i : Nat) : rd (l.drop p) i = rd l (p + i) := by simp [rd, List.getD]
theorem sumL_drop_le (c : V → Nat) (l : List V) (i : Nat) : sumL c (l.drop i) ≤ sumL c l := by
  have : sumL c l = sumL c (l.take i) + sumL c (l.drop i) := by rw [← sumL_append, List.take_append_drop]
  omega
theorem zS_sub (z : V → Nat) (l : List V) (p k : Nat) : zS z ((l.drop p).take k) ≤ zS z l := by
  have h1 := sumL_take_le z (l.drop p) k
  have h2 := sumL_drop_le z l p
  simp only [zS, List.length_take, List.length_drop]; omega
theorem LW_sub {w : V → Prop} {l : List V} (h : LW w l) (p k : Nat) : LW w ((l.drop p).take k) :=
  ⟨by have := h.1; simp only [List.length_take, List.length_drop]; omega, fun x hx => h.2 x (List.mem_of_mem_drop (List.mem_of_mem_take hx))⟩
theorem impl_entries_eq {n : V} (hn : W_Node n) (hz : zS z_Item (gl n 3) ≤ 4000000) {to : Nat} (h : NextOk n to) : impl_Node_entries (n_impl_Node n) (to : Int) = some (addN n to) := by
  obtain ⟨h1, h2, h3, h4⟩ := h
  have hp : gi (rd (gl n 9) to) 0 - 1 = ((prevN n to : Nat) : Int) := by unfold prevN; omega
  have hpl : prevN n to ≤ (gl n 3).length := by unfold prevN; omega
  unfold impl_Node_entries
  simp only [show gl (n_impl_Node n) 9 = gl n 9 from rfl, show gl (n_impl_Node n) 3 = gl n 3 from rfl, idxOk_nat h1, Int.toNat_natCast, cond_true, show n_impl_Node (n_impl_Node n) = n_impl_Node n from rfl]
  rw [wr64' (n := gi (rd (gl n 9) to) 0 - 1) (by omega) (by omega), hp, wr64' (n := ((prevN n to : Nat) : Int) + 4) (by omega) (by omega), impl_termAt_eq (by omega) (by omega)]
  have hm : mnI ((gl n 3).length : Int) (((prevN n to : Nat) : Int) + 4) = ((min (gl n 3).length (prevN n to + 4) : Nat) : Int) := by
    unfold mnI; split <;> omega
  rw [hm, decide_eq_true (p := (0 : Int) ≤ ((min (gl n 3).length (prevN n to + 4) : Nat) : Int)) (by omega), decide_eq_true (p := ((min (gl n 3).length (prevN n to + 4) : Nat) : Int) ≤ ((gl n 3).length : Int)) (by omega)]
  simp only [Bool.and_self, cond_true, Int.toNat_natCast, Option.bind_some]
  rw [decide_eq_true (p := (0 : Int) ≤ ((prevN n to : Nat) : Int)) (by omega), decide_eq_true (p := ((prevN n to : Nat) : Int) ≤ ((min (gl n 3).length (prevN n to + 4) : Nat) : Int)) (by omega)]
  simp only [Bool.and_self, cond_true]
  have htk : ((gl n 3).drop (prevN n to)).take (min (gl n 3).length (prevN n to + 4) - prevN n to) = ((gl n 3).drop (prevN n to)).take 4 := by
    rw [List.take_eq_take_iff]; simp; omega
  have hzz := zS_sub z_Item (gl n 3) (prevN n to) 4
  rw [htk, impl_ownItems_eq (LW_sub hn.2.2.2.1 _ _) (by omega)]
  rfl
end Go.Eng.R
open Go Go.Eng
namespace Go.Eng.R
def othersN (id : Int) (N : Nat) : List V := ((List.range N).filter fun i : Nat => !decide ((i : Int) = id)).map fun i : Nat => V.int .i64 (i : Int)
theorem othersN_succ (id : Int) (N : Nat) : othersN id (N + 1) = othersN id N ++ (bif decide ((N : Int) = id) then [] else [V.int .i64 (N : Int)]) := by
  unfold othersN
  rw [List.range_succ, List.filter_append, List.map_append]
  congr 1
  by_cases h : (N : Int) = id <;> simp [h]
theorem othersN_len (id : Int) (N : Nat) : (othersN id N).length ≤ N := by
  unfold othersN
  rw [List.length_map]
  exact Nat.le_trans (List.length_filter_le _ _) (by simp)
theorem impl_others_eq {n : V} (h8 : (gl n 8).length ≤ 1000) : impl_Node_others (n_impl_Node n) = some (othersN (gi n 0) (gl n 8).length) := by
  unfold impl_Node_others
  rw [show gl (n_impl_Node n) 8 = gl n 8 from rfl, fuel_eq]
  have key := loop_run0 (F := fun m r i => impl_Node_others_l3 m ((gl n 8).length : Int) i (n_impl_Node n) r) (n := (gl n 8).length) (fun i r => r = othersN (gi n 0) i) (fun o => o = some (othersN (gi n 0) (gl n 8).length)) ?_ ?_ (s := []) rfl
  · have key : impl_Node_others_l3 _ _ _ _ _ = _ := key
    show Option.bind (impl_Node_others_l3 _ _ _ (n_impl_Node n) _) _ = _
    rw [key]; rfl
  · intro m i r hi hI
    have hrl : r.length ≤ i := by rw [hI]; exact othersN_len _ _
    refine .inl ⟨othersN (gi n 0) (i + 1), ?_, rfl⟩
    show impl_Node_others_l3 (m + 1) _ _ (n_impl_Node n) _ = _
    rw [impl_Node_others_l3, othersN_succ, ← hI]
    simp only [lt_nat hi, cond_true, show gi (n_impl_Node n) 0 = gi n 0 from rfl, wr_succ hi (show (gl n 8).length ≤ 9223372036854775807 by omega)]
    rw [roomyB (n := r.length + 1) (by omega) (by omega)]
    by_cases h : (i : Int) = gi n 0
    · simp only [h, decide_true, Bool.not_true, cond_false, cond_true, List.append_nil]; rfl
    · simp only [h, decide_false, Bool.not_false, cond_false, cond_true]; rfl
  · intro m r hI
    show impl_Node_others_l3 (m + 1) _ _ (n_impl_Node n) _ = _
    rw [impl_Node_others_l3, lt_self, hI]; rfl
def ownM (m : V) : V := V.agg [(V.int .i64 (gi m 0)), (V.int .i64 (gi m 1)), (V.int .i64 (gi m 2)), (V.int .i64 (gi m 3)), (V.int .i64 (gi m 4)), (V.int .i64 (gi m 5)), (V.inl t_impl_Item ((gl m 6).map n_impl_Item)), (V.int .i64 (gi m 7)), (V.bool (gb m 8))]
theorem spec_ownMsgs_eq {l : List V} (hl : l.length ≤ 1000000) (hw : ∀ m ∈ l, LW W_Item (gl m 6) ∧ zS z_Item (gl m 6) ≤ 4000000) : spec_l4ownMsgs l = some (l.map ownM) := by
  unfold spec_l4ownMsgs
  rw [fuel_eq, app_loop (F := fun m r i => spec_l4ownMsgs_l3 m l i r) (f := ownM) ?_ ?_]
  · rfl
  · intro m i r hi hr
    have hmem : rd l i ∈ l := by
      have : rd l i = l[i] := by simp [rd, List.getD, hi]
      rw [this]; exact List.getElem_mem hi
    obtain ⟨h1, h2⟩ := hw _ hmem
    simp only [spec_l4ownMsgs_l3, lt_nat hi, idxOk_nat hi, Int.toNat_natCast, cond_true, spec_ownItems_eq h1 h2, Option.bind_some]
    rw [roomyB (n := r.length + 1) (by omega) (by omega)]
    simp only [cond_true, wr_succ hi (show l.length ≤ 9223372036854775807 by omega)]
    rfl
  · intro m r; simp only [spec_l4ownMsgs_l3, lt_self, cond_false]
def zeroM : V := V.agg [(V.int .i64 0), (V.int .i64 0), (V.int .i64 0), (V.int .i64 0), (V.int .i64 0), (V.int .i64 0), (V.inl t_impl_Item []), (V.int .i64 0), (V.bool false)]
theorem zeroM_W : W_Msg zeroM := ⟨I64_0, I64_0, I64_0, I64_0, I64_0, I64_0, LW.nil, I64_0, trivial⟩
theorem ownM_addN (n : V) (to : Nat) : ownM (addN n to) = addN n to := by
  have : (itemsN n (prevN n to)).map n_impl_Item = itemsN n (prevN n to) := by
    unfold itemsN; rw [List.map_map]; rfl
  show V.agg [_, _, _, _, _, _, V.inl _ ((itemsN n (prevN n to)).map n_impl_Item), _, _] = _
  rw [this]; rfl
theorem itemsN_W {n : V} (hn : W_Node n) (p : Nat) : LW W_Item (itemsN n p) := LW.map (h := n_impl_Item) (fun x hx => hx) (LW_sub hn.2.2.2.1 _ _)
theorem itemsN_z {n : V} (p : Nat) : zS z_Item (itemsN n p) ≤ zS z_Item (gl n 3) := by
  unfold itemsN
  rw [zS_map (f := z_Item) (g := z_Item) (h := n_impl_Item) (fun x => rfl)]
  exact zS_sub _ _ _ _
theorem termN_I64 {n : V} (hn : W_Node n) (p : Nat) : I64 (termN n p) := by
  unfold termN
  by_cases h : 1 ≤ p ∧ p ≤ (gl n 3).length
  · rw [decide_eq_true h]
    exact (hn.2.2.2.1.rd (i := p - 1) (by omega)).1
  · rw [decide_eq_false h]; exact I64_0
theorem addN_W {n : V} (hn : W_Node n) {to : Nat} (h : NextOk n to) (ht : to ≤ 1000000) : W_Msg (addN n to) := by
  have := h.hi; have := h.len
  refine ⟨(show I64 2 from ⟨by decide, by decide⟩), hn.1, ⟨by show (-9223372036854775808 : Int) ≤ (to : Int); omega, by show ((to : Int)) ≤ 9223372036854775807; omega⟩, hn.2.1, ?_, termN_I64 hn _, itemsN_W hn _, hn.2.2.2.2.1, trivial⟩
  constructor
  · show (-9223372036854775808 : Int) ≤ ((prevN n to : Nat) : Int); omega
  · show (((prevN n to : Nat)) : Int) ≤ 9223372036854775807
    unfold prevN; omega
theorem addN_ct {n : V} {to : Nat} (hz : zS z_Item (gl n 3) ≤ 4000000) : ct_Msg (addN n to) ≤ 100000000 := by
  have h1 := itemsN_z (n := n) (prevN n to)
  have h2 : sumL c_Item (itemsN n (prevN n to)) ≤ 5 * zS z_Item (itemsN n (prevN n to)) := sumL_mul 5 fun y _ => c_Item_cz y
  show sumL c_Item (itemsN n (prevN n to)) ≤ _
  omega
theorem nextOk_of {n : V} {k : Int} (hp : NodeP n k) (h2 : gi n 5 = 2) {to : Nat} (ht : (to : Int) < k) : NextOk n to := by
  have hlen := hp.lnext
  have hto : to < (gl n 9).length := by omega
  have := List.all_eq_true.1 hp.cells to (List.mem_range.2 hto)
  simp only [cellB, h2, decide_true, cond_true, Bool.and_eq_true, decide_eq_true_eq] at this
  exact ⟨hto, this.1.1, this.1.2, by have := hp.len; omega⟩
end Go.Eng.R
open Go Go.Eng
namespace Go.Eng.R
structure ND where
  id : Int
  term : Int
  vote : Int
  log : List V
  commit : Int
  role : Int
  lead : Int
  wait : Int
  votes : List V
  next : List V
  mtch : List V
def ND.v (s : ND) : V := V.agg [(V.int .i64 s.id), (V.int .i64 s.term), (V.int .i64 s.vote), (V.inl t_impl_Item s.log), (V.int .i64 s.commit), (V.int .i64 s.role), (V.int .i64 s.lead), (V.int .i64 s.wait), (V.inl t_bool s.votes), (V.inl t_int' s.next), (V.inl t_int' s.mtch)]
def ND.sv (s : ND) (out : List V) : V := V.agg [(V.int .i64 s.id), (V.int .i64 s.term), (V.int .i64 s.vote), (V.inl t_impl_Item s.log), (V.int .i64 s.commit), (V.int .i64 s.role), (V.int .i64 s.lead), (V.int .i64 s.wait), (V.inl t_bool s.votes), (V.inl t_int' s.next), (V.inl t_int' s.mtch), (V.inl t_impl_Msg out)]
def ND.of (n : V) : ND := ⟨gi n 0, gi n 1, gi n 2, gl n 3, gi n 4, gi n 5, gi n 6, gi n 7, gl n 8, gl n 9, gl n 10⟩
theorem ND.of_v (n : V) : (ND.of n).v = n_impl_Node n := rfl
def ND.b (s : ND) (a b c d e : Nat) : V := V.agg [(V.int .i64 s.id), (V.int .i64 s.term), (V.int .i64 s.vote), (V.sl a t_impl_Item 0 none), (V.int .i64 s.commit), (V.int .i64 s.role), (V.int .i64 s.lead), (V.int .i64 s.wait), (V.sl b t_bool 0 none), (V.sl c t_int' 0 none), (V.sl d t_int' 0 none), (V.sl e t_impl_Msg 0 none)]
def ND.c (s : ND) (a b c d : Nat) : V := V.agg [(V.int .i64 s.id), (V.int .i64 s.term), (V.int .i64 s.vote), (V.sl a t_impl_Item 0 none), (V.int .i64 s.commit), (V.int .i64 s.role), (V.int .i64 s.lead), (V.int .i64 s.wait), (V.sl b t_bool 0 none), (V.sl c t_int' 0 none), (V.sl d t_int' 0 none)]
def cntGe (p : Int) : List V → Nat
  | [] => 0
  | x :: l => (bif decide (p ≤ gi x 0) then 1 else 0) + cntGe p l
theorem cntGe_append (p : Int) (a b : List V) : cntGe p (a ++ b) = cntGe p a + cntGe p b := by induction a <;> simp_all [cntGe]; omega
theorem cntGe_succ (p : Int) {l : List V} {i : Nat} (h : i < l.length) : cntGe p (l.take (i + 1)) = cntGe p (l.take i) + (bif decide (p ≤ gi (rd l i) 0) then 1 else 0) := by
  rw [take_rd h, cntGe_append]; simp [cntGe]
theorem cntGe_le (p : Int) (l : List V) : cntGe p l ≤ l.length := by
  induction l with
  | nil => simp [cntGe]
  | cons x l ih => simp only [cntGe, List.length_cons]; cases decide (p ≤ gi x 0) <;> simp <;> omega
def termL (log : List V) (p : Nat) : Int := bif decide (1 ≤ p ∧ p ≤ log.length) then gi (rd log (p - 1)) 0 else 0
def scanC (s : ND) (c : Nat) : Nat → Nat
  | 0 => c
  | j + 1 => bif decide (termL s.log (c + (j + 1)) = s.term) && decide ((s.votes.length : Int) < 2 * ((cntGe (((c + (j + 1) : Nat)) : Int) s.mtch : Nat) : Int)) then c + (j + 1) else scanC s c j
def ND.mark (s : ND) : ND := { s with next := s.next.set s.id.toNat (V.int .i64 (((s.log.length : Nat) : Int) + 1)), mtch := s.mtch.set s.id.toNat (V.int .i64 ((s.log.length : Nat) : Int)) }
def ND.adv (s : ND) : ND := { s.mark with commit := ((scanC s.mark s.commit.toNat (s.log.length - s.commit.toNat) : Nat) : Int) }
def msgsN (n : V) (N : Nat) : List V := ((List.range N).filter fun i : Nat => !decide ((i : Int) = gi n 0)).map (addN n)
theorem msgsN_succ (n : V) (N : Nat) : msgsN n (N + 1) = msgsN n N ++ (bif decide ((N : Int) = gi n 0) then [] else [addN n N]) := by
  unfold msgsN
  rw [List.range_succ, List.filter_append, List.map_append]
  congr 1
  by_cases h : (N : Int) = gi n 0 <;> simp [h]
theorem msgsN_len (n : V) (N : Nat) : (msgsN n N).length ≤ N := by
  unfold msgsN
  rw [List.length_map]
  exact Nat.le_trans (List.length_filter_le _ _) (by simp)
theorem impl_adv_count {s : ND} {out : List V} (hl : s.mtch.length ≤ 1000) (place : Int) : impl_server_advance_l6 (s.mtch.length + 1) place 0 (s.mtch.length : Int) 0 (s.b 2 3 4 1 5) s.mtch s.log s.votes s.next out =
    some (place, ((cntGe place s.mtch : Nat) : Int), s.b 1 2 3 4 5, s.log, s.votes, s.next, s.mtch, out) := by
  refine loop_run0 (F := fun m c i => impl_server_advance_l6 m place c (s.mtch.length : Int) i (s.b 2 3 4 1 5) s.mtch s.log s.votes s.next out) (n := s.mtch.length) (fun i c => c = ((cntGe place (s.mtch.take i) : Nat) : Int)) (fun o => o = some (place, ((cntGe place s.mtch : Nat) : Int), s.b 1 2 3 4 5, s.log, s.votes, s.next, s.mtch, out)) ?_ ?_ (by simp [cntGe])
  · intro m i c hi hI
    have hle := cntGe_le place (s.mtch.take i)
    simp only [List.length_take] at hle
    refine .inl ⟨_, ?_, (cntGe_succ place hi ▸ rfl : ((cntGe place (s.mtch.take (i + 1)) : Nat) : Int) = ((cntGe place (s.mtch.take (i + 1)) : Nat) : Int))⟩
    show impl_server_advance_l6 (m + 1) place c _ (i : Int) _ _ _ _ _ _ = _
    rw [impl_server_advance_l6, cntGe_succ place hi]
    simp only [lt_nat hi, idxOk_nat hi, Int.toNat_natCast, Nat.zero_add, cond_true, wr_succ hi (show s.mtch.length ≤ 9223372036854775807 by omega)]
    by_cases h : place ≤ gi (rd s.mtch i) 0
    · simp only [h, decide_true, cond_true]
      rw [wr64' (by omega) (by omega), hI, show ((cntGe place (s.mtch.take i) : Nat) : Int) + 1 = ((cntGe place (s.mtch.take i) + 1 : Nat) : Int) from by omega]
      rfl
    · simp only [h, decide_false, cond_false, Nat.add_zero]
      rw [hI]; rfl
  · intro m c hI
    rw [List.take_length] at hI
    show impl_server_advance_l6 (m + 1) place c _ _ _ _ _ _ _ _ = _
    rw [impl_server_advance_l6, lt_self, hI]; rfl
theorem impl_adv_run {s : ND} {out : List V} {c : Nat} (hc : s.commit = (c : Int)) (hm : s.mtch.length ≤ 1000) (hv : s.votes.length = s.mtch.length) (hL : s.log.length ≤ 1000) :
    ∀ j m, j < m → c + j ≤ s.log.length → ∃ ix, impl_server_advance_l2 m ((c + j : Nat) : Int) (s.b 1 2 3 4 5) s.log s.votes s.next s.mtch out = some (ix, ({ s with commit := ((scanC s c j : Nat) : Int) } : ND).b 1 2 3 4 5, s.log, s.votes, s.next, s.mtch, out)
  | _, 0, h, _ => by omega
  | 0, m + 1, _, _ => by
    refine ⟨1, ?_⟩
    rw [impl_server_advance_l2]
    simp only [ND.b, gi_c0, gi_cs, scanC, ← hc, Nat.add_zero]
    simp only [Int.lt_irrefl, decide_false, cond_false]
    try rfl
  | j + 1, m + 1, h, hj => by
    obtain ⟨ix, ih⟩ := impl_adv_run (out := out) hc hm hv hL j m (by omega) (by omega)
    have ecnt := impl_adv_count (out := out) hm (((c + (j + 1) : Nat)) : Int)
    have et := impl_termAt_eq (n := s.v) (p := c + (j + 1)) (show s.log.length ≤ _ by omega) (by omega)
    rw [show n_impl_Node s.v = s.v from rfl, show termN s.v (c + (j + 1)) = termL s.log (c + (j + 1)) from rfl] at et
    have hcl := cntGe_le (((c + (j + 1) : Nat)) : Int) s.mtch
    rw [impl_server_advance_l2]
    simp only [ND.b, ND.v, gi_c0, gi_cs, fuel_eq] at ecnt ih et ⊢
    have hlt : s.commit < ((c + (j + 1) : Nat) : Int) := by omega
    simp only [hlt, decide_true, ecnt, cond_true, Option.bind_some, gi_c0, gi_cs, et, impl_Node_most, gl_c0, gl_cs]
    rw [wr64' (n := 2 * ((cntGe (((c + (j + 1) : Nat)) : Int) s.mtch : Nat) : Int)) (by omega) (by omega), wr64' (n := (((c + (j + 1) : Nat)) : Int) - 1) (by omega) (by omega), show (((c + (j + 1) : Nat)) : Int) - 1 = ((c + j : Nat) : Int) from by omega]
    simp only [scanC]
    by_cases h2 : termL s.log (c + (j + 1)) = s.term
    · by_cases h1 : ((s.votes.length : Nat) : Int) < 2 * ((cntGe (((c + (j + 1) : Nat)) : Int) s.mtch : Nat) : Int)
      · simp only [h1, h2, decide_true, cond_true, Bool.and_self]
        exact ⟨0, rfl⟩
      · simp only [h1, h2, decide_true, decide_false, cond_true, cond_false, Bool.and_false]
        exact ⟨ix, ih⟩
    · simp only [h2, decide_false, cond_false, Bool.false_and]
      exact ⟨ix, ih⟩
theorem impl_advance_eq {s : ND} {out : List V} (hi0 : 0 ≤ s.id) (hi : s.id < (s.mtch.length : Int)) (hn : s.next.length = s.mtch.length) (hv : s.votes.length = s.mtch.length) (hm : s.mtch.length ≤ 1000) (hL : s.log.length ≤ 1000) (hc0 : 0 ≤ s.commit) (hc1 : s.commit ≤ (s.log.length : Int)) :
    impl_server_advance (s.sv out) = some (s.adv.sv out) := by
  obtain ⟨c, hc⟩ : ∃ c : Nat, s.commit = (c : Int) := ⟨s.commit.toNat, by omega⟩
  obtain ⟨ix, e⟩ := impl_adv_run (s := s.mark) (out := out) (c := c) hc (by simpa [ND.mark] using hm) (by simpa [ND.mark] using hv) hL (s.log.length - c) (s.log.length - c + 1) (by omega) (by show c + (s.log.length - c) ≤ s.log.length; omega)
  have ei : s.id = ((s.id.toNat : Nat) : Int) := by omega
  unfold impl_server_advance
  rw [show gi (s.sv out) 0 = s.id from rfl, show gl (s.sv out) 10 = s.mtch from rfl, show gl (s.sv out) 9 = s.next from rfl, show gl (s.sv out) 3 = s.log from rfl]
  rw [show idxOk s.id s.mtch.length = true from by rw [ei]; exact idxOk_nat (by omega), show idxOk s.id s.next.length = true from by rw [ei]; exact idxOk_nat (by omega)]
  simp only [cond_true]
  rw [wr64' (n := ((s.log.length : Nat) : Int) + 1) (by omega) (by omega)]
  have e : impl_server_advance_l2 (s.log.length - c + 1) ((c + (s.log.length - c) : Nat) : Int) (s.b 1 2 3 4 5) s.log s.votes (s.next.set (0 + s.id.toNat) (V.int .i64 (((s.log.length : Nat) : Int) + 1))) (s.mtch.set (0 + s.id.toNat) (V.int .i64 ((s.log.length : Nat) : Int))) out = some (ix, ({ s.mark with commit := ((scanC s.mark c (s.log.length - c) : Nat) : Int) } : ND).b 1 2 3 4 5, s.log, s.votes, s.next.set (0 + s.id.toNat) (V.int .i64 (((s.log.length : Nat) : Int) + 1)), s.mtch.set (0 + s.id.toNat) (V.int .i64 ((s.log.length : Nat) : Int)), out) := by
    rw [Nat.zero_add]; exact e
  rw [show ((c + (s.log.length - c) : Nat) : Int) = ((s.log.length : Nat) : Int) from by omega] at e
  have ef : (((s.log.length : Nat) : Int) - s.commit).toNat + 1 = s.log.length - c + 1 := by omega
  have e2 : impl_server_advance_l2 ((((s.log.length : Nat) : Int) - s.commit).toNat + 1) ((s.log.length : Nat) : Int) (s.b 1 2 3 4 5) s.log s.votes (s.next.set (0 + s.id.toNat) (V.int .i64 (((s.log.length : Nat) : Int) + 1))) (s.mtch.set (0 + s.id.toNat) (V.int .i64 ((s.log.length : Nat) : Int))) out = some (ix, ({ s.mark with commit := ((scanC s.mark c (s.log.length - c) : Nat) : Int) } : ND).b 1 2 3 4 5, s.log, s.votes, s.next.set (0 + s.id.toNat) (V.int .i64 (((s.log.length : Nat) : Int) + 1)), s.mtch.set (0 + s.id.toNat) (V.int .i64 ((s.log.length : Nat) : Int)), out) := by rw [ef]; exact e
  have hadv : s.adv = ({ s.mark with commit := ((scanC s.mark c (s.log.length - c) : Nat) : Int) } : ND) := by
    unfold ND.adv
    rw [show s.commit.toNat = c from by omega]
  rw [hadv]
  refine Eq.trans (congrArg (fun o => Option.bind o _) e2) ?_
  simp only [Option.bind_some, Nat.zero_add]
  cases Nat.beq ix 0 <;> rfl
theorem impl_send_eq {s : ND} {out : List V} (hW : W_Node s.v) (hz : zS z_Item s.log ≤ 4000000) {to : Nat} (h : NextOk s.v to) (ho : out.length ≤ 100000) : impl_server_send (s.sv out) (to : Int) = some (s.sv (out ++ [addN s.v to])) := by
  unfold impl_server_send
  rw [show n_impl_Node (s.sv out) = n_impl_Node s.v from rfl, impl_entries_eq hW hz h, show gl (s.sv out) 11 = out from rfl]
  simp only [Option.bind_some]
  rw [roomyB (n := out.length + 1) (by omega) (by omega)]
  rfl
theorem impl_sendAll_eq {s : ND} {out : List V} (hW : W_Node s.v) (hz : zS z_Item s.log ≤ 4000000) (hv : s.votes.length ≤ 1000) (hN : ∀ i, i < s.votes.length → (i : Int) ≠ s.id → NextOk s.v i) (ho : out.length ≤ 1000) :
    impl_server_sendAll (s.sv out) = some (s.sv (out ++ msgsN s.v s.votes.length)) := by
  have hoth := impl_others_eq (n := s.v) (show s.votes.length ≤ 1000 from hv)
  rw [show gi s.v 0 = s.id from rfl, show gl s.v 8 = s.votes from rfl] at hoth
  let L : List Nat := (List.range s.votes.length).filter fun i : Nat => !decide ((i : Int) = s.id)
  have hL : othersN s.id s.votes.length = L.map fun i : Nat => V.int .i64 (i : Int) := rfl
  have hM : msgsN s.v s.votes.length = L.map (addN s.v) := rfl
  have hlen : L.length ≤ 1000 := Nat.le_trans (List.length_filter_le _ _) (by simpa using hv)
  have hmem : ∀ j ∈ L, NextOk s.v j := fun j hj => by
    obtain ⟨h1, h2⟩ := List.mem_filter.1 hj
    exact hN j (List.mem_range.1 h1) (by simpa using h2)
  have key := loop_run0 (F := fun m r i => impl_server_sendAll_l1 m (L.length : Int) i (s.b 2 3 4 5 6) (L.map fun i : Nat => V.int .i64 (i : Int)) s.log s.votes s.next s.mtch r) (n := L.length) (fun i r => r = out ++ (L.take i).map (addN s.v)) (fun o => o = some (s.b 1 2 3 4 5, s.log, s.votes, s.next, s.mtch, out ++ L.map (addN s.v))) ?_ ?_ (s := out) (by simp)
  · unfold impl_server_sendAll
    rw [show n_impl_Node (s.sv out) = n_impl_Node s.v from rfl, hoth, hL, hM]
    simp only [Option.bind_some]
    rw [fuel_eq, List.length_map]
    have key : impl_server_sendAll_l1 (L.length + 1) (L.length : Int) 0 (s.b 2 3 4 5 6) (L.map fun i : Nat => V.int .i64 (i : Int)) s.log s.votes s.next s.mtch out = _ := key
    exact Eq.trans (congrArg (fun o => Option.bind o _) key) rfl
  · intro m i r hi hI
    have hrl : r.length ≤ 2000 := by rw [hI]; simp; omega
    have hrd : rd (L.map fun i : Nat => V.int .i64 (i : Int)) i = V.int .i64 ((L[i] : Nat) : Int) := by simp [rd, List.getD, hi]
    have es := impl_send_eq (out := r) hW hz (to := L[i]) (hmem _ (List.getElem_mem hi)) (by omega)
    refine .inl ⟨r ++ [addN s.v L[i]], ?_, by rw [hI, List.take_add_one, List.getElem?_eq_getElem hi, List.map_append]; simp⟩
    show impl_server_sendAll_l1 (m + 1) _ (i : Int) _ _ _ _ _ _ _ = _
    rw [impl_server_sendAll_l1]
    have es' : impl_server_send (V.agg [(V.int .i64 s.id), (V.int .i64 s.term), (V.int .i64 s.vote), (V.inl t_impl_Item s.log), (V.int .i64 s.commit), (V.int .i64 s.role), (V.int .i64 s.lead), (V.int .i64 s.wait), (V.inl t_bool s.votes), (V.inl t_int' s.next), (V.inl t_int' s.mtch), (V.inl t_impl_Msg r)]) ((L[i] : Nat) : Int) = some (s.sv (r ++ [addN s.v L[i]])) := es
    simp only [ND.b, gi_c0, gi_cs, lt_nat hi, idxOk_nat (show i < (L.map fun i : Nat => V.int .i64 (i : Int)).length by simpa using hi), Int.toNat_natCast, Nat.zero_add, cond_true, hrd, show ∀ (k : IntKind) (x : Int), gi (V.int k x) 0 = x from fun _ _ => rfl, es', Option.bind_some, wr_succ hi (show L.length ≤ 9223372036854775807 by omega)]
    rfl
  · intro m r hI
    rw [List.take_length] at hI
    show impl_server_sendAll_l1 (m + 1) _ _ _ _ _ _ _ _ _ = _
    rw [impl_server_sendAll_l1, lt_self, hI]; rfl
end Go.Eng.R
open Go Go.Eng
namespace Go.Eng.R
theorem spec_l4add_v3_eq {n : V} (hn : W_Node n) {to : Nat} (h : NextOk n to) : spec_l4add_v3 (n_impl_Node n) (to : Int) = some (addN n to, n_impl_Node n) := by
  obtain ⟨h1, h2, h3, h4⟩ := h
  have hp : gi (rd (gl n 9) to) 0 - 1 = ((prevN n to : Nat) : Int) := by unfold prevN; omega
  have hpl : prevN n to ≤ (gl n 3).length := by unfold prevN; omega
  unfold spec_l4add_v3
  simp only [show gl (n_impl_Node n) 9 = gl n 9 from rfl, idxOk_nat h1, Int.toNat_natCast, Nat.zero_add, cond_true, show n_impl_Node (n_impl_Node n) = n_impl_Node n from rfl]
  rw [wr64' (n := gi (rd (gl n 9) to) 0 - 1) (by omega) (by omega), hp, spec_termAt_eq (by omega) (by omega)]
  simp only [Option.bind_some, show gl (n_impl_Node n) 3 = gl n 3 from rfl, show gl (n_impl_Node n) 8 = gl n 8 from rfl, show gl (n_impl_Node n) 10 = gl n 10 from rfl]
  have key := loop_run (F := fun m r i => spec_l4add_v3_l4 m i ((ND.of n).c 3 4 5 6) (V.agg [(V.int .i64 0), (V.int .i64 0), (V.int .i64 0), (V.int .i64 0), (V.int .i64 0), (V.int .i64 0), (V.sl 7 t_impl_Item 0 none), (V.int .i64 0), (V.bool false)])
      (V.agg [(V.int .i64 2), (V.int .i64 (gi n 0)), (V.int .i64 (to : Int)), (V.int .i64 (gi n 1)), (V.int .i64 ((prevN n to : Nat) : Int)), (V.int .i64 (termN n (prevN n to))), (V.sl 8 t_impl_Item 0 none), (V.int .i64 (gi n 4)), (V.bool false)]) (gl n 3) (gl n 8) (gl n 9) (gl n 10) [] r)
      (n := min (gl n 3).length (prevN n to + 4)) (fun i r => prevN n to ≤ i ∧ r = (((gl n 3).drop (prevN n to)).take (i - prevN n to)).map n_impl_Item)
      (fun o => o = some ((ND.of n).c 3 4 5 6, V.agg [(V.int .i64 0), (V.int .i64 0), (V.int .i64 0), (V.int .i64 0), (V.int .i64 0), (V.int .i64 0), (V.sl 7 t_impl_Item 0 none), (V.int .i64 0), (V.bool false)],
        V.agg [(V.int .i64 2), (V.int .i64 (gi n 0)), (V.int .i64 (to : Int)), (V.int .i64 (gi n 1)), (V.int .i64 ((prevN n to : Nat) : Int)), (V.int .i64 (termN n (prevN n to))), (V.sl 8 t_impl_Item 0 none), (V.int .i64 (gi n 4)), (V.bool false)], gl n 3, gl n 8, gl n 9, gl n 10, [], itemsN n (prevN n to))) ?_ ?_
      (((gl n 3).length - prevN n to) + 1) (prevN n to) [] (by omega) (by omega) ⟨Nat.le_refl _, by simp⟩
  · rw [show (((gl n 3).length : Int) - ((prevN n to : Nat) : Int)).toNat + 1 = ((gl n 3).length - prevN n to) + 1 from by omega]
    have key : spec_l4add_v3_l4 _ _ _ _ _ _ _ _ _ _ _ = _ := key
    exact Eq.trans (congrArg (fun o => Option.bind o _) key) rfl
  · intro m i r hi hI
    obtain ⟨hpi, hr⟩ := hI
    have hi3 : i < (gl n 3).length := by omega
    have hrl : r.length = i - prevN n to := by rw [hr]; simp; omega
    refine .inl ⟨r ++ [n_impl_Item (rd (gl n 3) i)], ?_, by omega, ?_⟩
    · show spec_l4add_v3_l4 (m + 1) _ _ _ _ _ _ _ _ _ _ = _
      rw [spec_l4add_v3_l4]
      simp only [lt_nat hi3, idxOk_nat hi3, cond_true, Int.toNat_natCast, Nat.zero_add]
      rw [decide_eq_true (p := ((r.length : Nat) : Int) < 4) (by omega), roomyB (n := r.length + 1) (by omega) (by omega), wr_succ hi3 (by omega)]
      rfl
    · rw [show i + 1 - prevN n to = (i - prevN n to) + 1 from by omega, take_rd (by simp; omega), rd_drop, show prevN n to + (i - prevN n to) = i from by omega, List.map_append, ← hr]
      rfl
  · intro m r hI
    obtain ⟨hpi, hr⟩ := hI
    have hrl : r.length = min (gl n 3).length (prevN n to + 4) - prevN n to := by rw [hr]; simp; omega
    have hri : r = itemsN n (prevN n to) := by
      rw [hr, itemsN]
      congr 1
      rw [List.take_eq_take_iff]
      simp; omega
    show spec_l4add_v3_l4 (m + 1) _ _ _ _ _ _ _ _ _ _ = _
    rw [spec_l4add_v3_l4]
    by_cases hlt : min (gl n 3).length (prevN n to + 4) < (gl n 3).length
    · rw [lt_nat hlt, decide_eq_false (p := ((r.length : Nat) : Int) < 4) (by omega), ← hri]; rfl
    · rw [show min (gl n 3).length (prevN n to + 4) = (gl n 3).length from by omega, lt_self, ← hri]; rfl
theorem spec_l4commit_v1_count {s : ND} (hl : s.mtch.length ≤ 1000) (place : Int) : spec_l4commit_v1_l7 (s.mtch.length + 1) place 0 0 (s.c 1 2 3 4) s.log s.votes s.next s.mtch = some (place, ((cntGe place s.mtch : Nat) : Int), s.c 1 2 3 4, s.log, s.votes, s.next, s.mtch) := by
  refine loop_run0 (F := fun m c i => spec_l4commit_v1_l7 m place c i (s.c 1 2 3 4) s.log s.votes s.next s.mtch) (n := s.mtch.length) (fun i c => c = ((cntGe place (s.mtch.take i) : Nat) : Int)) (fun o => o = some (place, ((cntGe place s.mtch : Nat) : Int), s.c 1 2 3 4, s.log, s.votes, s.next, s.mtch)) ?_ ?_ (by simp [cntGe])
  · intro m i c hi hI
    have hle := cntGe_le place (s.mtch.take i)
    simp only [List.length_take] at hle
    refine .inl ⟨_, ?_, (cntGe_succ place hi ▸ rfl : ((cntGe place (s.mtch.take (i + 1)) : Nat) : Int) = ((cntGe place (s.mtch.take (i + 1)) : Nat) : Int))⟩
    show spec_l4commit_v1_l7 (m + 1) place c (i : Int) _ _ _ _ _ = _
    rw [spec_l4commit_v1_l7, cntGe_succ place hi]
    simp only [lt_nat hi, idxOk_nat hi, Int.toNat_natCast, Nat.zero_add, cond_true, wr_succ hi (show s.mtch.length ≤ 9223372036854775807 by omega)]
    by_cases h : place ≤ gi (rd s.mtch i) 0
    · simp only [h, decide_true, cond_true]
      rw [wr64' (by omega) (by omega), hI, show ((cntGe place (s.mtch.take i) : Nat) : Int) + 1 = ((cntGe place (s.mtch.take i) + 1 : Nat) : Int) from by omega]
      rfl
    · simp only [h, decide_false, cond_false, Nat.add_zero]
      rw [hI]; rfl
  · intro m c hI
    rw [List.take_length] at hI
    show spec_l4commit_v1_l7 (m + 1) place c _ _ _ _ _ _ = _
    rw [spec_l4commit_v1_l7, lt_self, hI]; rfl
theorem spec_l4commit_v1_run {s : ND} {c : Nat} (hc : s.commit = (c : Int)) (hm : s.mtch.length ≤ 1000) (hv : s.votes.length = s.mtch.length) (hL : s.log.length ≤ 1000) :
    ∀ j m, j < m → c + j ≤ s.log.length → ∃ ix, spec_l4commit_v1_l3 m ((c + j : Nat) : Int) (s.c 1 2 3 4) s.log s.votes s.next s.mtch = some (ix, ({ s with commit := ((scanC s c j : Nat) : Int) } : ND).c 1 2 3 4, s.log, s.votes, s.next, s.mtch)
  | _, 0, h, _ => by omega
  | 0, m + 1, _, _ => by
    refine ⟨1, ?_⟩
    rw [spec_l4commit_v1_l3]
    simp only [ND.c, gi_c0, gi_cs, scanC, ← hc, Nat.add_zero]
    simp only [Int.lt_irrefl, decide_false, cond_false]
    try rfl
  | j + 1, m + 1, h, hj => by
    obtain ⟨ix, ih⟩ := spec_l4commit_v1_run hc hm hv hL j m (by omega) (by omega)
    have ecnt := spec_l4commit_v1_count hm (((c + (j + 1) : Nat)) : Int)
    have et := spec_termAt_eq (n := s.v) (p := c + (j + 1)) (show s.log.length ≤ _ by omega) (by omega)
    rw [show n_impl_Node s.v = s.v from rfl, show termN s.v (c + (j + 1)) = termL s.log (c + (j + 1)) from rfl] at et
    have hcl := cntGe_le (((c + (j + 1) : Nat)) : Int) s.mtch
    rw [spec_l4commit_v1_l3]
    simp only [ND.c, ND.v, gi_c0, gi_cs, fuel_eq] at ecnt ih et ⊢
    have hlt : s.commit < ((c + (j + 1) : Nat) : Int) := by omega
    simp only [hlt, decide_true, ecnt, cond_true, Option.bind_some, gi_c0, gi_cs, et, spec_l4most]
    rw [wr64' (n := 2 * ((cntGe (((c + (j + 1) : Nat)) : Int) s.mtch : Nat) : Int)) (by omega) (by omega), wr64' (n := (((c + (j + 1) : Nat)) : Int) - 1) (by omega) (by omega), show (((c + (j + 1) : Nat)) : Int) - 1 = ((c + j : Nat) : Int) from by omega]
    simp only [scanC, hv]
    by_cases h1 : ((s.mtch.length : Nat) : Int) < 2 * ((cntGe (((c + (j + 1) : Nat)) : Int) s.mtch : Nat) : Int)
    · by_cases h2 : termL s.log (c + (j + 1)) = s.term
      · simp only [h1, h2, decide_true, cond_true, Bool.and_self]
        exact ⟨0, rfl⟩
      · simp only [h1, h2, decide_true, decide_false, cond_true, cond_false, Bool.false_and]
        exact ⟨ix, ih⟩
    · simp only [h1, decide_false, cond_false, Bool.and_false]
      exact ⟨ix, ih⟩
theorem spec_l4commit_v1_eq {s : ND} (hi0 : 0 ≤ s.id) (hi : s.id < (s.mtch.length : Int)) (hn : s.next.length = s.mtch.length) (hv : s.votes.length = s.mtch.length) (hm : s.mtch.length ≤ 1000) (hL : s.log.length ≤ 1000) (hc0 : 0 ≤ s.commit) (hc1 : s.commit ≤ (s.log.length : Int)) :
    spec_l4commit_v1 s.v = some s.adv.v := by
  obtain ⟨c, hc⟩ : ∃ c : Nat, s.commit = (c : Int) := ⟨s.commit.toNat, by omega⟩
  obtain ⟨ix, e⟩ := spec_l4commit_v1_run (s := s.mark) (c := c) hc (by simpa [ND.mark] using hm) (by simpa [ND.mark] using hv) hL (s.log.length - c) (s.log.length - c + 1) (by omega) (by show c + (s.log.length - c) ≤ s.log.length; omega)
  have ei : s.id = ((s.id.toNat : Nat) : Int) := by omega
  unfold spec_l4commit_v1
  rw [show gi s.v 0 = s.id from rfl, show gl s.v 10 = s.mtch from rfl, show gl s.v 9 = s.next from rfl, show gl s.v 3 = s.log from rfl]
  rw [show idxOk s.id s.mtch.length = true from by rw [ei]; exact idxOk_nat (by omega), show idxOk s.id s.next.length = true from by rw [ei]; exact idxOk_nat (by omega)]
  simp only [cond_true]
  rw [wr64' (n := ((s.log.length : Nat) : Int) + 1) (by omega) (by omega)]
  have e : spec_l4commit_v1_l3 (s.log.length - c + 1) ((c + (s.log.length - c) : Nat) : Int) (s.c 1 2 3 4) s.log s.votes (s.next.set (0 + s.id.toNat) (V.int .i64 (((s.log.length : Nat) : Int) + 1))) (s.mtch.set (0 + s.id.toNat) (V.int .i64 ((s.log.length : Nat) : Int))) = some (ix, ({ s.mark with commit := ((scanC s.mark c (s.log.length - c) : Nat) : Int) } : ND).c 1 2 3 4, s.log, s.votes, s.next.set (0 + s.id.toNat) (V.int .i64 (((s.log.length : Nat) : Int) + 1)), s.mtch.set (0 + s.id.toNat) (V.int .i64 ((s.log.length : Nat) : Int))) := by
    rw [Nat.zero_add]; exact e
  rw [show ((c + (s.log.length - c) : Nat) : Int) = ((s.log.length : Nat) : Int) from by omega] at e
  have ef : (((s.log.length : Nat) : Int) - s.commit).toNat + 1 = s.log.length - c + 1 := by omega
  have e2 : spec_l4commit_v1_l3 ((((s.log.length : Nat) : Int) - s.commit).toNat + 1) ((s.log.length : Nat) : Int) (s.c 1 2 3 4) s.log s.votes (s.next.set (0 + s.id.toNat) (V.int .i64 (((s.log.length : Nat) : Int) + 1))) (s.mtch.set (0 + s.id.toNat) (V.int .i64 ((s.log.length : Nat) : Int))) = some (ix, ({ s.mark with commit := ((scanC s.mark c (s.log.length - c) : Nat) : Int) } : ND).c 1 2 3 4, s.log, s.votes, s.next.set (0 + s.id.toNat) (V.int .i64 (((s.log.length : Nat) : Int) + 1)), s.mtch.set (0 + s.id.toNat) (V.int .i64 ((s.log.length : Nat) : Int))) := by rw [ef]; exact e
  have hadv : s.adv = ({ s.mark with commit := ((scanC s.mark c (s.log.length - c) : Nat) : Int) } : ND) := by
    unfold ND.adv
    rw [show s.commit.toNat = c from by omega]
  rw [hadv]
  refine Eq.trans (congrArg (fun o => Option.bind o _) e2) ?_
  simp only [Option.bind_some, Nat.zero_add]
  cases Nat.beq ix 0 <;> rfl
theorem spec_l4all_v2_eq {s : ND} (hW : W_Node s.v) (hv : s.votes.length ≤ 1000) (hN : ∀ i, i < s.votes.length → (i : Int) ≠ s.id → NextOk s.v i) : spec_l4all_v2 s.v = some (msgsN s.v s.votes.length, s.v) := by
  have key := loop_run0 (F := fun m r i => spec_l4all_v2_l3 m i (s.c 2 3 4 5) r s.log s.votes s.next s.mtch) (n := s.votes.length) (fun i r => r = msgsN s.v i) (fun o => o = some (s.c 2 3 4 5, msgsN s.v s.votes.length, s.log, s.votes, s.next, s.mtch)) ?_ ?_ (s := []) rfl
  · unfold spec_l4all_v2
    rw [show gl s.v 8 = s.votes from rfl, fuel_eq]
    have key : spec_l4all_v2_l3 (s.votes.length + 1) 0 (s.c 2 3 4 5) [] s.log s.votes s.next s.mtch = _ := key
    exact Eq.trans (congrArg (fun o => Option.bind o _) key) rfl
  · intro m i r hi hI
    have hrl : r.length ≤ i := by rw [hI]; exact msgsN_len _ _
    refine .inl ⟨msgsN s.v (i + 1), ?_, rfl⟩
    show spec_l4all_v2_l3 (m + 1) (i : Int) _ _ _ _ _ _ = _
    rw [spec_l4all_v2_l3, msgsN_succ, ← hI]
    simp only [ND.c, gi_c0, gi_cs, lt_nat hi, cond_true, wr_succ hi (show s.votes.length ≤ 9223372036854775807 by omega)]
    by_cases h : (i : Int) = s.id
    · simp only [show gi s.v 0 = s.id from rfl, h, decide_true, Bool.not_true, cond_false, cond_true, List.append_nil]
    · have ea := spec_l4add_v3_eq (n := s.v) hW (to := i) (hN i hi h)
      rw [show n_impl_Node s.v = s.v from rfl] at ea
      have ea' : spec_l4add_v3 (V.agg [(V.int .i64 s.id), (V.int .i64 s.term), (V.int .i64 s.vote), (V.inl t_impl_Item s.log), (V.int .i64 s.commit), (V.int .i64 s.role), (V.int .i64 s.lead), (V.int .i64 s.wait), (V.inl t_bool s.votes), (V.inl t_int' s.next), (V.inl t_int' s.mtch)]) (i : Int) = some (addN s.v i, s.v) := ea
      simp only [show gi s.v 0 = s.id from rfl, h, decide_false, Bool.not_false, cond_true, cond_false, ea', Option.bind_some]
      rw [roomyB (n := r.length + 1) (by omega) (by omega)]
      rfl
  · intro m r hI
    show spec_l4all_v2_l3 (m + 1) _ _ _ _ _ _ _ = _
    rw [spec_l4all_v2_l3, lt_self, hI]; rfl
end Go.Eng.R
open Go Go.Eng
namespace Go.Eng.R
def ownD (n : V) : ND := { ND.of n with log := (gl n 3).map n_impl_Item }
theorem clone_bool_eq {l : List V} (h : l.length ≤ 4000000) : slices_Clone_bool l = some l := by
  unfold slices_Clone_bool; rw [roomyB (by omega) (by omega)]; rfl
theorem clone_int_eq {l : List V} (h : l.length ≤ 4000000) : slices_Clone_int l = some l := by
  unfold slices_Clone_int; rw [roomyB (by omega) (by omega)]; rfl
theorem impl_own_eq {n : V} (hn : W_Node n) (hz : zS z_Item (gl n 3) ≤ 4000000) (h8 : (gl n 8).length ≤ 1000) (h9 : (gl n 9).length ≤ 1000) (h10 : (gl n 10).length ≤ 1000) : impl_Node_own (n_impl_Node n) = some (ownD n).v := by
  unfold impl_Node_own
  simp only [show gl (n_impl_Node n) 3 = gl n 3 from rfl, show gl (n_impl_Node n) 8 = gl n 8 from rfl, show gl (n_impl_Node n) 9 = gl n 9 from rfl, show gl (n_impl_Node n) 10 = gl n 10 from rfl, impl_ownItems_eq hn.2.2.2.1 hz, clone_bool_eq (l := gl n 8) (by omega), clone_int_eq (l := gl n 9) (by omega), clone_int_eq (l := gl n 10) (by omega), Option.bind_some]
  rfl
theorem spec_own_eq {n : V} (hn : W_Node n) (hz : zS z_Item (gl n 3) ≤ 4000000) (h8 : (gl n 8).length ≤ 1000) (h9 : (gl n 9).length ≤ 1000) (h10 : (gl n 10).length ≤ 1000) : spec_l4own (n_impl_Node n) = some (ownD n).v := by
  unfold spec_l4own
  simp only [show gl (n_impl_Node n) 3 = gl n 3 from rfl, show gl (n_impl_Node n) 8 = gl n 8 from rfl, show gl (n_impl_Node n) 9 = gl n 9 from rfl, show gl (n_impl_Node n) 10 = gl n 10 from rfl, spec_ownItems_eq hn.2.2.2.1 hz, Option.bind_some]
  rw [roomyB (n := 0 + (gl n 8).length) (by omega) (by omega), roomyB (n := 0 + (gl n 9).length) (by omega) (by omega), roomyB (n := 0 + (gl n 10).length) (by omega) (by omega)]
  rfl
theorem ownD_W {n : V} (hn : W_Node n) : W_Node (ownD n).v :=
  ⟨hn.1, hn.2.1, hn.2.2.1, LW.map (h := n_impl_Item) (fun x hx => hx) hn.2.2.2.1, hn.2.2.2.2.1, hn.2.2.2.2.2.1, hn.2.2.2.2.2.2.1, hn.2.2.2.2.2.2.2.1, hn.2.2.2.2.2.2.2.2.1, hn.2.2.2.2.2.2.2.2.2.1, hn.2.2.2.2.2.2.2.2.2.2⟩
def Nrm (l : List V) : Prop := l.map n_impl_Item = l
theorem nrm_map (l : List V) : Nrm (l.map n_impl_Item) := by unfold Nrm; rw [List.map_map]; rfl
theorem nrm_append {a b : List V} (ha : Nrm a) (hb : Nrm b) : Nrm (a ++ b) := by unfold Nrm at *; rw [List.map_append, ha, hb]
theorem ownD_nrm {s : ND} (h : Nrm s.log) : ownD s.v = s := by
  unfold ownD
  rw [show gl s.v 3 = s.log from rfl, h]; rfl
theorem scanC_le (s : ND) (c : Nat) : ∀ j, scanC s c j ≤ c + j
  | 0 => Nat.le_refl _
  | j + 1 => by
    have := scanC_le s c j
    simp only [scanC]
    cases (decide (termL s.log (c + (j + 1)) = s.term) && decide ((s.votes.length : Int) < 2 * ((cntGe (((c + (j + 1) : Nat)) : Int) s.mtch : Nat) : Int))) <;> simp <;> omega
theorem LW_set {w : V → Prop} {l : List V} (h : LW w l) {x : V} (hx : w x) (i : Nat) : LW w (l.set i x) :=
  ⟨by simpa using h.1, fun y hy => (List.mem_or_eq_of_mem_set hy).elim (h.2 y) fun e => e ▸ hx⟩
theorem adv_W {s : ND} (hW : W_Node s.v) (hL : s.log.length ≤ 1000) (hc0 : 0 ≤ s.commit) (hc1 : s.commit ≤ (s.log.length : Int)) : W_Node s.adv.v := by
  have h1 := scanC_le s.mark s.commit.toNat (s.log.length - s.commit.toNat)
  refine ⟨hW.1, hW.2.1, hW.2.2.1, hW.2.2.2.1, ⟨?_, ?_⟩, hW.2.2.2.2.2.1, hW.2.2.2.2.2.2.1, hW.2.2.2.2.2.2.2.1, hW.2.2.2.2.2.2.2.2.1, ?_, ?_⟩
  · show (-9223372036854775808 : Int) ≤ ((scanC s.mark s.commit.toNat (s.log.length - s.commit.toNat) : Nat) : Int); omega
  · show ((scanC s.mark s.commit.toNat (s.log.length - s.commit.toNat) : Nat) : Int) ≤ 9223372036854775807; omega
  · exact LW_set (w := W_int) hW.2.2.2.2.2.2.2.2.2.1 ⟨by show (-9223372036854775808 : Int) ≤ ((s.log.length : Nat) : Int) + 1; omega, by show ((s.log.length : Nat) : Int) + 1 ≤ 9223372036854775807; omega⟩ _
  · exact LW_set (w := W_int) hW.2.2.2.2.2.2.2.2.2.2 ⟨by show (-9223372036854775808 : Int) ≤ ((s.log.length : Nat) : Int); omega, by show ((s.log.length : Nat) : Int) ≤ 9223372036854775807; omega⟩ _
theorem rd_set_ne {l : List V} {i j : Nat} (h : j ≠ i) (x : V) : rd (l.set i x) j = rd l j := by simp [rd, List.getD, List.getElem?_set, Ne.symm h]
theorem adv_next {s : ND} (hi0 : 0 ≤ s.id) {i : Nat} (hi : (i : Int) ≠ s.id) (h : NextOk s.v i) : NextOk s.adv.v i := by
  obtain ⟨h1, h2, h3, h4⟩ := h
  have e : rd (gl s.adv.v 9) i = rd (gl s.v 9) i := rd_set_ne (l := s.next) (by omega) _
  refine ⟨?_, by rw [e]; exact h2, by rw [e]; exact h3, h4⟩
  show i < (s.next.set _ _).length
  rw [List.length_set]; exact h1
theorem msgs_W {s : ND} (hW : W_Node s.v) (hv : s.votes.length ≤ 1000) (hN : ∀ i, i < s.votes.length → (i : Int) ≠ s.id → NextOk s.v i) : LW W_Msg (msgsN s.v s.votes.length) := by
  refine ⟨by have := msgsN_len s.v s.votes.length; omega, fun m hm => ?_⟩
  obtain ⟨i, hi, rfl⟩ := List.mem_map.1 hm
  obtain ⟨h1, h2⟩ := List.mem_filter.1 hi
  have h1 := List.mem_range.1 h1
  have hne : (i : Int) ≠ gi s.v 0 := by simpa using h2
  exact addN_W hW (hN i h1 hne) (by omega)
theorem sumL_bound {f : V → Nat} {l : List V} {B : Nat} (h : ∀ x ∈ l, f x ≤ B) : sumL f l ≤ l.length * B := by
  induction l with
  | nil => simp [sumL]
  | cons x l ih =>
    have h1 := h x (by simp)
    have h2 := ih fun y hy => h y (by simp [hy])
    simp only [sumL, List.length_cons, Nat.add_mul]; omega
theorem addN_c {n : V} {to : Nat} (hz : zS z_Item (gl n 3) ≤ 4000000) : c_Msg (addN n to) ≤ 100000010 := by
  have h1 := addN_ct (n := n) (to := to) hz
  have : c_Msg (addN n to) = 8 + ct_Msg (addN n to) := by simp only [c_Msg, ct_Msg]; omega
  omega
theorem msgs_c {s : ND} (hz : zS z_Item s.log ≤ 4000000) {N : Nat} (hv : N ≤ 5) : sumL c_Msg (msgsN s.v N) ≤ 600000000 := by
  have h1 := sumL_bound (f := c_Msg) (l := msgsN s.v N) (B := 100000010) fun m hm => by
    obtain ⟨i, hi, rfl⟩ := List.mem_map.1 hm
    exact addN_c hz
  have h2 := msgsN_len s.v N
  have : (msgsN s.v N).length * 100000010 ≤ 5 * 100000010 := Nat.mul_le_mul_right _ (by omega)
  omega
theorem msgs_own {s : ND} {N : Nat} : (msgsN s.v N).map ownM = msgsN s.v N := by
  unfold msgsN
  rw [List.map_map]
  congr 1
  funext i
  exact ownM_addN _ _
theorem msgs_items {s : ND} (hW : W_Node s.v) (hz : zS z_Item s.log ≤ 4000000) {N : Nat} : ∀ m ∈ msgsN s.v N, LW W_Item (gl m 6) ∧ zS z_Item (gl m 6) ≤ 4000000 := by
  intro m hm
  obtain ⟨i, hi, rfl⟩ := List.mem_map.1 hm
  have h6 := itemsN_z (n := s.v) (prevN s.v i)
  exact ⟨itemsN_W hW _, by show zS z_Item (itemsN s.v (prevN s.v i)) ≤ _; have : zS z_Item (gl s.v 3) ≤ 4000000 := hz; omega⟩
end Go.Eng.R
open Go Go.Eng
namespace Go.Eng.R
structure LeadOk (s : ND) : Prop where
  W : W_Node s.v
  id0 : 0 ≤ s.id
  idn : s.id < (s.mtch.length : Int)
  next : s.next.length = s.mtch.length
  votes : s.votes.length = s.mtch.length
  few : s.mtch.length ≤ 5
  log : s.log.length ≤ 401
  com0 : 0 ≤ s.commit
  com1 : s.commit ≤ (s.log.length : Int)
  size : zS z_Item s.log ≤ 4000000
  nexts : ∀ i, i < s.votes.length → (i : Int) ≠ s.id → NextOk s.v i
theorem LeadOk.adv {s : ND} (h : LeadOk s) : W_Node s.adv.v ∧ ∀ i, i < s.adv.votes.length → (i : Int) ≠ s.adv.id → NextOk s.adv.v i :=
  ⟨adv_W h.W (by have := h.log; omega) h.com0 h.com1, fun i hi hne => adv_next h.id0 hne (h.nexts i hi hne)⟩
theorem LeadOk.impl {s : ND} (h : LeadOk s) {out : List V} (ho : out.length ≤ 1000) : (Option.bind (impl_server_advance (s.sv out)) fun r => impl_server_sendAll (n_impl_server r)) = some (s.adv.sv (out ++ msgsN s.adv.v s.votes.length)) := by
  have hf := h.few; have hl := h.log
  rw [impl_advance_eq h.id0 h.idn h.next h.votes (by omega) (by omega) h.com0 h.com1, Option.bind_some]
  exact impl_sendAll_eq (s := s.adv) h.adv.1 h.size (show s.votes.length ≤ 1000 by have := h.votes; omega) h.adv.2 ho
theorem zS_append (z : V → Nat) (a b : List V) : zS z (a ++ b) = zS z a + zS z b := by simp only [zS, sumL_append, List.length_append]; omega
theorem bind_if {α β : Type} (c : Bool) (a b : Option α) (f : α → Option β) : Option.bind (bif c then a else b) f = bif c then Option.bind a f else Option.bind b f := by cases c <;> rfl
structure StepOk' (s : ND) (l : List V) : Prop where
  W : W_Node s.v
  nrm : Nrm s.log
  size : zS z_Item s.log ≤ 3000000
  votes : s.votes.length ≤ 5
  next : s.next.length ≤ 5
  mtch : s.mtch.length ≤ 5
  own : l.map ownM = l
  few : l.length ≤ 1000
  items : ∀ m ∈ l, LW W_Item (gl m 6) ∧ zS z_Item (gl m 6) ≤ 4000000
  msgs : LW W_Msg l
  marks : sumL c_Msg l ≤ 600000000
theorem StepOk'.out {s : ND} {l : List V} (h : StepOk' s l) : spec_l4own (n_impl_Node s.v) = some s.v ∧ spec_l4ownMsgs l = some l ∧ ct_Node s.v ≤ 100000000 := by
  have a3 := h.size; have a4 := h.votes; have a5 := h.next; have a6 := h.mtch; have a8 := h.few
  have eo := spec_own_eq (n := s.v) h.W (show zS z_Item s.log ≤ 4000000 by omega) (show s.votes.length ≤ 1000 by omega) (show s.next.length ≤ 1000 by omega) (show s.mtch.length ≤ 1000 by omega)
  rw [ownD_nrm h.nrm] at eo
  refine ⟨eo, by rw [spec_ownMsgs_eq (by omega) h.items, h.own], ?_⟩
  have e2 : sumL c_Item s.log ≤ 5 * zS z_Item s.log := sumL_mul 5 fun y _ => c_Item_cz y
  show sumL c_Item s.log + sumL c1 s.votes + sumL c1 s.next + sumL c1 s.mtch ≤ _
  simp only [sumL_c1]; omega
theorem StepOk'.none {s : ND} (hW : W_Node s.v) (hn : Nrm s.log) (hz : zS z_Item s.log ≤ 3000000) (h1 : s.votes.length ≤ 5) (h2 : s.next.length ≤ 5) (h3 : s.mtch.length ≤ 5) : StepOk' s [] :=
  ⟨hW, hn, hz, h1, h2, h3, rfl, by simp, by simp, LW.nil, by decide⟩
theorem StepOk'.led {s : ND} (h : LeadOk s) (hn : Nrm s.log) (hz : zS z_Item s.log ≤ 3000000) : StepOk' s.adv (msgsN s.adv.v s.votes.length) := by
  have hv := h.votes; have hf := h.few; have hx := h.next
  have hmw : LW W_Msg (msgsN s.adv.v s.votes.length) := msgs_W (s := s.adv) h.adv.1 (show s.votes.length ≤ 1000 by omega) h.adv.2
  have hml := msgsN_len s.adv.v s.votes.length
  exact ⟨h.adv.1, hn, hz, by show s.votes.length ≤ 5; omega, by show (s.next.set _ _).length ≤ 5; rw [List.length_set]; omega, by show (s.mtch.set _ _).length ≤ 5; rw [List.length_set]; omega,
    msgs_own (s := s.adv), by omega, msgs_items (s := s.adv) h.adv.1 (by show zS z_Item s.log ≤ _; omega), hmw, msgs_c (s := s.adv) (by show zS z_Item s.log ≤ _; omega) (by omega)⟩
structure OwnOk (n : V) (k : Int) (s : ND) : Prop where
  eq : s = ownD n
  p : NodeP n k
  W : W_Node s.v
  nrm : Nrm s.log
  size : zS z_Item s.log ≤ 1048576
  len : s.log.length = (gl n 3).length
theorem own_ok {n : V} {k : Int} (hn : W_Node n) (hz : zS z_Item (gl n 3) ≤ 1048576) (hp : NodeP n k) : OwnOk n k (ownD n) :=
  ⟨rfl, hp, ownD_W hn, nrm_map _, by rw [show zS z_Item (ownD n).log = zS z_Item (gl n 3) from zS_map (f := z_Item) (g := z_Item) (h := n_impl_Item) (fun x => rfl) _]; exact hz, List.length_map _⟩
theorem OwnOk.fields {n : V} {k : Int} {s : ND} (h : OwnOk n k s) : s.id = gi n 0 ∧ s.term = gi n 1 ∧ s.vote = gi n 2 ∧ s.commit = gi n 4 ∧ s.role = gi n 5 ∧ s.lead = gi n 6 ∧ s.wait = gi n 7 ∧ s.votes = gl n 8 ∧ s.next = gl n 9 ∧ s.mtch = gl n 10 := by
  rw [h.eq]; exact ⟨rfl, rfl, rfl, rfl, rfl, rfl, rfl, rfl, rfl, rfl⟩
theorem OwnOk.lead {n : V} {k : Int} {s : ND} (h : OwnOk n k s) (h2 : s.role = 2) {x : V} (hx : W_Item x) (hxz : z_Item x ≤ 1048576) (hlt : s.log.length ≤ 400) : LeadOk { s with log := s.log ++ [x] } ∧ zS z_Item (s.log ++ [x]) ≤ 3000000 := by
  obtain ⟨f0, f1, f2, f4, f5, f6, f7, f8, f9, f10⟩ := h.fields
  have hp := h.p; have hW := h.W; have hl := h.len; have hs := h.size
  have h8 := hp.lvotes; have h9 := hp.lnext; have h10 := hp.lmatch; have hk5 := hp.k5
  have hll : (s.log ++ [x]).length = s.log.length + 1 := by rw [List.length_append, List.length_singleton]
  have hsz : zS z_Item [x] = 1 + z_Item x := by simp [zS, sumL]
  have hz2 : zS z_Item (s.log ++ [x]) ≤ 3000000 := by rw [zS_append, hsz]; omega
  have hW2 : W_Node ({ s with log := s.log ++ [x] } : ND).v := by
    refine ⟨hW.1, hW.2.1, hW.2.2.1, ⟨?_, ?_⟩, hW.2.2.2.2.1, hW.2.2.2.2.2.1, hW.2.2.2.2.2.2.1, hW.2.2.2.2.2.2.2.1, hW.2.2.2.2.2.2.2.2.1, hW.2.2.2.2.2.2.2.2.2.1, hW.2.2.2.2.2.2.2.2.2.2⟩
    · show (s.log ++ [x]).length ≤ _
      rw [hll]; omega
    · intro y hy
      have hy : y ∈ s.log ++ [x] := hy
      rcases List.mem_append.1 hy with hy | hy
      · exact hW.2.2.2.1.2 y hy
      · obtain rfl := List.mem_singleton.1 hy
        exact hx
  have hnx : ∀ i, i < s.votes.length → (i : Int) ≠ s.id → NextOk ({ s with log := s.log ++ [x] } : ND).v i := fun i hi hne => by
    rw [f8] at hi
    obtain ⟨q1, q2, q3, q4⟩ := nextOk_of hp (by rw [← f5]; exact h2) (to := i) (by omega)
    refine ⟨?_, ?_, ?_, ?_⟩
    · show i < s.next.length; rw [f9]; exact q1
    · show 1 ≤ gi (rd s.next i) 0; rw [f9]; exact q2
    · show gi (rd s.next i) 0 ≤ (((s.log ++ [x]).length : Nat) : Int) + 1; rw [f9, hll]; omega
    · show (s.log ++ [x]).length ≤ 401; rw [hll]; omega
  have c0 := hp.com0; have c1 := hp.com1; have i0 := hp.id0; have ik := hp.idk
  refine ⟨⟨hW2, ?_, ?_, ?_, ?_, ?_, ?_, ?_, ?_, ?_, hnx⟩, hz2⟩
  · show 0 ≤ s.id; omega
  · show s.id < ((s.mtch.length : Nat) : Int); rw [f10]; omega
  · show s.next.length = s.mtch.length; rw [f9, f10]; omega
  · show s.votes.length = s.mtch.length; rw [f8, f10]; omega
  · show s.mtch.length ≤ 5; rw [f10]; omega
  · show (s.log ++ [x]).length ≤ 401; rw [hll]; omega
  · show 0 ≤ s.commit; omega
  · show s.commit ≤ (((s.log ++ [x]).length : Nat) : Int); rw [hll]; omega
  · show zS z_Item (s.log ++ [x]) ≤ 4000000; omega
end Go.Eng.R
open Go Go.Eng
namespace Go.Eng.R
def fillTo (l : List V) (x : V) (i : Nat) : List V := List.replicate i x ++ l.drop i
theorem fillTo_len {l : List V} {x : V} {i : Nat} (h : i ≤ l.length) : (fillTo l x i).length = l.length := by simp [fillTo]; omega
theorem fillTo_set {l : List V} {x : V} {i : Nat} (h : i < l.length) : (fillTo l x i).set i x = fillTo l x (i + 1) := by
  unfold fillTo
  rw [List.set_append_right _ _ (by simp), List.length_replicate, Nat.sub_self, List.drop_eq_getElem_cons h, List.set_cons_zero, List.replicate_succ', List.append_assoc, List.singleton_append]
theorem fillTo_all (l : List V) (x : V) : fillTo l x l.length = List.replicate l.length x := by simp [fillTo]
def cntT : List V → Nat
  | [] => 0
  | x :: l => (bif gb x 0 then 1 else 0) + cntT l
theorem cntT_append (a b : List V) : cntT (a ++ b) = cntT a + cntT b := by induction a <;> simp_all [cntT]; omega
theorem cntT_succ {l : List V} {i : Nat} (h : i < l.length) : cntT (l.take (i + 1)) = cntT (l.take i) + (bif gb (rd l i) 0 then 1 else 0) := by
  rw [take_rd h, cntT_append]; simp [cntT]
theorem cntT_le (l : List V) : cntT l ≤ l.length := by
  induction l with
  | nil => simp [cntT]
  | cons x l ih => simp only [cntT, List.length_cons]; cases gb x 0 <;> simp <;> omega
theorem impl_votes_run {s : ND} {out : List V} (hl : s.votes.length ≤ 1000) : impl_server_lead_l2 (s.votes.length + 1) 0 (s.votes.length : Int) 0 (s.b 2 1 3 4 5) s.votes s.log s.next s.mtch out =
    some (((cntT s.votes : Nat) : Int), s.b 1 2 3 4 5, s.log, s.votes, s.next, s.mtch, out) := by
  refine loop_run0 (F := fun m c i => impl_server_lead_l2 m c (s.votes.length : Int) i (s.b 2 1 3 4 5) s.votes s.log s.next s.mtch out) (n := s.votes.length) (fun i c => c = ((cntT (s.votes.take i) : Nat) : Int)) (fun o => o = some (((cntT s.votes : Nat) : Int), s.b 1 2 3 4 5, s.log, s.votes, s.next, s.mtch, out)) ?_ ?_ (by simp [cntT])
  · intro m i c hi hI
    have hle := cntT_le (s.votes.take i)
    simp only [List.length_take] at hle
    refine .inl ⟨_, ?_, (rfl : ((cntT (s.votes.take (i + 1)) : Nat) : Int) = ((cntT (s.votes.take (i + 1)) : Nat) : Int))⟩
    show impl_server_lead_l2 (m + 1) c _ (i : Int) _ _ _ _ _ _ = _
    rw [impl_server_lead_l2, cntT_succ hi]
    simp only [lt_nat hi, idxOk_nat hi, Int.toNat_natCast, Nat.zero_add, cond_true, wr_succ hi (show s.votes.length ≤ 9223372036854775807 by omega)]
    cases h : gb (rd s.votes i) 0 with
    | true =>
      simp only [cond_true]
      rw [wr64' (by omega) (by omega), hI, show ((cntT (s.votes.take i) : Nat) : Int) + 1 = ((cntT (s.votes.take i) + 1 : Nat) : Int) from by omega]
      rfl
    | false =>
      simp only [cond_false, Nat.add_zero]
      rw [hI]; rfl
  · intro m c hI
    rw [List.take_length] at hI
    show impl_server_lead_l2 (m + 1) c _ _ _ _ _ _ _ _ = _
    rw [impl_server_lead_l2, lt_self, hI]; rfl
theorem spec_votes_run {s : ND} (hl : s.votes.length ≤ 1000) : spec_l4lead_l3 (s.votes.length + 1) 0 0 (s.c 1 2 3 4) s.log s.votes s.next s.mtch = some (((cntT s.votes : Nat) : Int), s.c 1 2 3 4, s.log, s.votes, s.next, s.mtch) := by
  refine loop_run0 (F := fun m c i => spec_l4lead_l3 m c i (s.c 1 2 3 4) s.log s.votes s.next s.mtch) (n := s.votes.length) (fun i c => c = ((cntT (s.votes.take i) : Nat) : Int)) (fun o => o = some (((cntT s.votes : Nat) : Int), s.c 1 2 3 4, s.log, s.votes, s.next, s.mtch)) ?_ ?_ (by simp [cntT])
  · intro m i c hi hI
    have hle := cntT_le (s.votes.take i)
    simp only [List.length_take] at hle
    refine .inl ⟨_, ?_, (rfl : ((cntT (s.votes.take (i + 1)) : Nat) : Int) = ((cntT (s.votes.take (i + 1)) : Nat) : Int))⟩
    show spec_l4lead_l3 (m + 1) c (i : Int) _ _ _ _ _ = _
    rw [spec_l4lead_l3, cntT_succ hi]
    simp only [lt_nat hi, idxOk_nat hi, Int.toNat_natCast, Nat.zero_add, cond_true, wr_succ hi (show s.votes.length ≤ 9223372036854775807 by omega)]
    cases h : gb (rd s.votes i) 0 with
    | true =>
      simp only [cond_true]
      rw [wr64' (by omega) (by omega), hI, show ((cntT (s.votes.take i) : Nat) : Int) + 1 = ((cntT (s.votes.take i) + 1 : Nat) : Int) from by omega]
      rfl
    | false =>
      simp only [cond_false, Nat.add_zero]
      rw [hI]; rfl
  · intro m c hI
    rw [List.take_length] at hI
    show spec_l4lead_l3 (m + 1) c _ _ _ _ _ _ = _
    rw [spec_l4lead_l3, lt_self, hI]; rfl
def nextX (s : ND) : V := V.int .i64 (((s.log.length : Nat) : Int) + 1)
def ND.fresh (s : ND) : ND := { s with next := List.replicate s.next.length (nextX s), mtch := List.replicate s.mtch.length (V.int .i64 0) }
theorem impl_fresh_run {s : ND} {out : List V} (hl : s.next.length ≤ 1000) (hL : s.log.length ≤ 1000) (hm : s.mtch.length = s.next.length) : impl_server_lead_l10 (s.next.length + 1) (s.next.length : Int) 0 (s.b 1 2 3 4 5) s.log s.votes s.next s.mtch out =
    some (s.b 1 2 3 4 5, s.log, s.votes, s.fresh.next, s.fresh.mtch, out) := by
  refine loop_run0 (F := fun m (r : List V × List V) i => impl_server_lead_l10 m (s.next.length : Int) i (s.b 1 2 3 4 5) s.log s.votes r.1 r.2 out) (n := s.next.length) (fun i r => r = (fillTo s.next (nextX s) i, fillTo s.mtch (V.int .i64 0) i)) (fun o => o = some (s.b 1 2 3 4 5, s.log, s.votes, s.fresh.next, s.fresh.mtch, out)) ?_ ?_ (s := (s.next, s.mtch)) rfl
  · intro m i r hi hI
    subst hI
    refine .inl ⟨_, ?_, rfl⟩
    show impl_server_lead_l10 (m + 1) _ (i : Int) _ _ _ _ _ _ = _
    rw [impl_server_lead_l10, ← fillTo_set hi, ← fillTo_set (l := s.mtch) (by omega)]
    rw [show idxOk ((i : Nat) : Int) (fillTo s.next (nextX s) i).length = true from idxOk_nat (by rw [fillTo_len (by omega)]; exact hi), show idxOk ((i : Nat) : Int) (fillTo s.mtch (V.int .i64 0) i).length = true from idxOk_nat (by rw [fillTo_len (by omega)]; omega)]
    simp only [lt_nat hi, Int.toNat_natCast, Nat.zero_add, cond_true, wr_succ hi (show s.next.length ≤ 9223372036854775807 by omega)]
    rw [wr64' (n := ((s.log.length : Nat) : Int) + 1) (by omega) (by omega)]
    rfl
  · intro m r hI
    subst hI
    show impl_server_lead_l10 (m + 1) _ _ _ _ _ _ _ _ = _
    have e2 : fillTo s.mtch (V.int .i64 0) s.next.length = List.replicate s.mtch.length (V.int .i64 0) := by rw [← hm]; exact fillTo_all _ _
    rw [impl_server_lead_l10, lt_self, fillTo_all, e2]; rfl
theorem spec_fresh_run {s : ND} (hl : s.next.length ≤ 1000) (hL : s.log.length ≤ 1000) (hm : s.mtch.length = s.next.length) : spec_l4lead_l13 (s.next.length + 1) 0 (s.c 1 2 3 4) s.log s.votes s.next s.mtch =
    some (s.c 1 2 3 4, s.log, s.votes, s.fresh.next, s.fresh.mtch) := by
  refine loop_run0 (F := fun m (r : List V × List V) i => spec_l4lead_l13 m i (s.c 1 2 3 4) s.log s.votes r.1 r.2) (n := s.next.length) (fun i r => r = (fillTo s.next (nextX s) i, fillTo s.mtch (V.int .i64 0) i)) (fun o => o = some (s.c 1 2 3 4, s.log, s.votes, s.fresh.next, s.fresh.mtch)) ?_ ?_ (s := (s.next, s.mtch)) rfl
  · intro m i r hi hI
    subst hI
    refine .inl ⟨_, ?_, rfl⟩
    show spec_l4lead_l13 (m + 1) (i : Int) _ _ _ _ _ = _
    rw [spec_l4lead_l13, ← fillTo_set hi, ← fillTo_set (l := s.mtch) (by omega)]
    have hlen : (fillTo s.next (nextX s) i).length = s.next.length := fillTo_len (by omega)
    rw [hlen, show idxOk ((i : Nat) : Int) s.next.length = true from idxOk_nat hi, show idxOk ((i : Nat) : Int) (fillTo s.mtch (V.int .i64 0) i).length = true from idxOk_nat (by rw [fillTo_len (by omega)]; omega)]
    simp only [lt_nat hi, Int.toNat_natCast, Nat.zero_add, cond_true, wr_succ hi (show s.next.length ≤ 9223372036854775807 by omega)]
    rw [wr64' (n := ((s.log.length : Nat) : Int) + 1) (by omega) (by omega)]
    rfl
  · intro m r hI
    subst hI
    show spec_l4lead_l13 (m + 1) _ _ _ _ _ _ = _
    have hlen : (fillTo s.next (nextX s) s.next.length).length = s.next.length := fillTo_len (by omega)
    have e2 : fillTo s.mtch (V.int .i64 0) s.next.length = List.replicate s.mtch.length (V.int .i64 0) := by rw [← hm]; exact fillTo_all _ _
    rw [spec_l4lead_l13, hlen, lt_self, fillTo_all, e2]; rfl
def noopI (t : Int) : V := V.agg [(V.int .i64 t), (V.int .i64 (-1)), (V.int .i64 0), (V.int .i64 0), (V.inl t_byte []), (V.inl t_byte []), (V.int .i64 0)]
def ND.lead' (s : ND) : ND := { s.fresh with role := 2, lead := s.id, wait := 0, log := bif decide (((s.log.length : Nat) : Int) < 400) then s.log ++ [noopI s.term] else s.log }
structure CandOk (s : ND) : Prop where
  W : W_Node s.v
  id0 : 0 ≤ s.id
  idn : s.id < (s.mtch.length : Int)
  next : s.next.length = s.mtch.length
  votes : s.votes.length = s.mtch.length
  few : s.mtch.length ≤ 5
  log : s.log.length ≤ 400
  com0 : 0 ≤ s.commit
  com1 : s.commit ≤ (s.log.length : Int)
  size : zS z_Item s.log ≤ 2000000
  nrm : Nrm s.log
theorem LW_rep' {w : V → Prop} {x : V} {k : Nat} (h : w x) (hk : k ≤ 1000) : LW w (List.replicate k x) := LW_rep h (by omega)
set_option maxRecDepth 100000 in
theorem CandOk.leadLog {s : ND} (h : CandOk s) : s.lead'.log.length ≤ s.log.length + 1 ∧ s.log.length ≤ s.lead'.log.length ∧ s.lead'.log.length ≤ 400 ∧ zS z_Item s.lead'.log ≤ 3000000 ∧ Nrm s.lead'.log ∧ LW W_Item s.lead'.log := by
  have hz := h.size; have hW := h.W; have hl := h.log
  show (bif decide (((s.log.length : Nat) : Int) < 400) then s.log ++ [noopI s.term] else s.log).length ≤ _ ∧ _ ≤ (bif decide (((s.log.length : Nat) : Int) < 400) then s.log ++ [noopI s.term] else s.log).length ∧ (bif decide (((s.log.length : Nat) : Int) < 400) then s.log ++ [noopI s.term] else s.log).length ≤ 400 ∧
    zS z_Item (bif decide (((s.log.length : Nat) : Int) < 400) then s.log ++ [noopI s.term] else s.log) ≤ _ ∧ Nrm (bif decide (((s.log.length : Nat) : Int) < 400) then s.log ++ [noopI s.term] else s.log) ∧ LW W_Item (bif decide (((s.log.length : Nat) : Int) < 400) then s.log ++ [noopI s.term] else s.log)
  by_cases hc : ((s.log.length : Nat) : Int) < 400
  · simp only [hc, decide_true, cond_true]
    have hll : (s.log ++ [noopI s.term]).length = s.log.length + 1 := by rw [List.length_append, List.length_singleton]
    have hsz : zS z_Item [noopI s.term] = 1 := rfl
    refine ⟨by omega, by omega, by omega, by rw [zS_append, hsz]; omega, nrm_append h.nrm rfl, by rw [hll]; omega, fun x hx => ?_⟩
    rcases List.mem_append.1 hx with hx | hx
    · exact hW.2.2.2.1.2 x hx
    · obtain rfl := List.mem_singleton.1 hx
      exact ⟨hW.2.1, I64_m1, I64_0, I64_0, LW.nil, LW.nil, I64_0⟩
  · simp only [hc, decide_false, cond_false]
    exact ⟨by omega, by omega, by omega, by omega, h.nrm, hW.2.2.2.1⟩
set_option maxRecDepth 100000 in
theorem CandOk.leads {s : ND} (h : CandOk s) : LeadOk s.lead' := by
  obtain ⟨l1, l2, l3, l4, l5, l6⟩ := h.leadLog
  have hW := h.W; have hf := h.few; have hn := h.next; have hv := h.votes; have c0 := h.com0; have c1 := h.com1; have hl := h.log
  have hnl : s.lead'.next.length = s.next.length := List.length_replicate
  have hml : s.lead'.mtch.length = s.mtch.length := List.length_replicate
  refine ⟨⟨hW.1, hW.2.1, hW.2.2.1, l6, hW.2.2.2.2.1, (show I64 2 from ⟨by decide, by decide⟩), hW.1, I64_0, hW.2.2.2.2.2.2.2.2.1, ?_, ?_⟩, h.id0, by rw [hml]; exact h.idn, by rw [hnl, hml]; exact hn, by rw [hml]; exact hv, by rw [hml]; exact hf, by omega, c0, by show s.commit ≤ _; omega, by omega, fun i hi hne => ?_⟩
  · exact LW_rep' (w := W_int) (x := nextX s) ⟨by show (-9223372036854775808 : Int) ≤ ((s.log.length : Nat) : Int) + 1; omega, by show ((s.log.length : Nat) : Int) + 1 ≤ 9223372036854775807; omega⟩ (by omega)
  · exact LW_rep' (w := W_int) (x := V.int .i64 0) I64_0 (by omega)
  · have hi : i < s.votes.length := hi
    have hi2 : i < s.next.length := by rw [hn, ← hv]; exact hi
    have e : rd (List.replicate s.next.length (nextX s)) i = nextX s := by simp [rd, List.getD, hi2]
    refine ⟨by show i < (List.replicate s.next.length (nextX s)).length; rw [List.length_replicate]; exact hi2, ?_, ?_, by show s.lead'.log.length ≤ 401; omega⟩
    · show 1 ≤ gi (rd (List.replicate s.next.length (nextX s)) i) 0
      rw [e]; show (1 : Int) ≤ ((s.log.length : Nat) : Int) + 1; omega
    · show gi (rd (List.replicate s.next.length (nextX s)) i) 0 ≤ ((s.lead'.log.length : Nat) : Int) + 1
      rw [e]; show ((s.log.length : Nat) : Int) + 1 ≤ _; omega
theorem LeadOk.spec' {s : ND} (h : LeadOk s) : (Option.bind (spec_l4commit_v1 s.v) fun r => spec_l4all_v2 (n_impl_Node r)) = some (msgsN s.adv.v s.votes.length, s.adv.v) := by
  have hf := h.few; have hl := h.log
  rw [spec_l4commit_v1_eq h.id0 h.idn h.next h.votes (by omega) (by omega) h.com0 h.com1, Option.bind_some]
  exact spec_l4all_v2_eq (s := s.adv) h.adv.1 (show s.votes.length ≤ 1000 by have := h.votes; omega) h.adv.2
def mostB (s : ND) : Bool := decide (((s.votes.length : Nat) : Int) < 2 * ((cntT s.votes : Nat) : Int))
set_option maxRecDepth 100000 in
theorem impl_lead_eq {s : ND} (h : CandOk s) {out : List V} (ho : out.length ≤ 1000) : impl_server_lead (s.sv out) = some (bif mostB s then s.lead'.adv.sv (out ++ msgsN s.lead'.adv.v s.votes.length) else s.sv out) := by
  have hf := h.few; have hn := h.next; have hv := h.votes; have hl := h.log
  have hcl := cntT_le s.votes
  have e1 := impl_votes_run (s := s) (out := out) (by omega)
  have e2 := impl_fresh_run (s := ({ s with role := 2, lead := s.id, wait := 0 } : ND)) (out := out) (show s.next.length ≤ 1000 by omega) (show s.log.length ≤ 1000 by omega) (show s.mtch.length = s.next.length by omega)
  have e3 := h.leads.impl ho
  obtain ⟨r1, p0, p1⟩ := Option.bind_eq_some_iff.1 e3
  unfold impl_server_lead
  rw [show gl (s.sv out) 8 = s.votes from rfl, fuel_eq]
  refine Eq.trans (congrArg (fun o => Option.bind o _) e1) ?_
  simp only [Option.bind_some, impl_Node_most]
  rw [wr64' (n := 2 * ((cntT s.votes : Nat) : Int)) (by omega) (by omega)]
  by_cases hm : ((s.votes.length : Nat) : Int) < 2 * ((cntT s.votes : Nat) : Int)
  case neg =>
    rw [show mostB s = false from decide_eq_false hm]
    simp only [gl_c0, gl_cs, hm, decide_false, Bool.not_false, cond_true, cond_false]
    rfl
  case pos =>
    rw [show mostB s = true from decide_eq_true hm]
    simp only [gl_c0, gl_cs, hm, decide_true, Bool.not_true, cond_false, cond_true, fuel_eq]
    refine Eq.trans (congrArg (fun o => Option.bind o _) e2) ?_
    simp only [Option.bind_some]
    by_cases hc : ((s.log.length : Nat) : Int) < 400
    · have hlog : s.lead'.log = s.log ++ [noopI s.term] := by show (bif decide (((s.log.length : Nat) : Int) < 400) then _ else _) = _; rw [decide_eq_true hc]; rfl
      simp only [hc, decide_true, cond_true]
      rw [roomyB (n := s.log.length + 1) (by omega) (by omega)]
      simp only [cond_true]
      refine Eq.trans (congrArg (fun o => Option.bind o _) (show _ = some r1 from ?_)) ?_
      · rw [← p0]; unfold ND.sv; rw [hlog]; rfl
      · simp only [Option.bind_some, p1]; rfl
    · have hlog : s.lead'.log = s.log := by show (bif decide (((s.log.length : Nat) : Int) < 400) then _ else _) = _; rw [decide_eq_false hc]; rfl
      simp only [hc, decide_false, cond_false]
      refine Eq.trans (congrArg (fun o => Option.bind o _) (show _ = some r1 from ?_)) ?_
      · rw [← p0]; unfold ND.sv; rw [hlog]; rfl
      · simp only [Option.bind_some, p1]; rfl
set_option maxRecDepth 100000 in
theorem spec_lead_eq {s : ND} (h : CandOk s) : spec_l4lead s.v = some (bif mostB s then (msgsN s.lead'.adv.v s.votes.length, s.lead'.adv.v) else ([], s.v)) := by
  have hf := h.few; have hn := h.next; have hv := h.votes; have hl := h.log
  have hcl := cntT_le s.votes
  have e1 := spec_votes_run (s := s) (by omega)
  have e2 := spec_fresh_run (s := ({ s with role := 2, lead := s.id, wait := 0 } : ND)) (show s.next.length ≤ 1000 by omega) (show s.log.length ≤ 1000 by omega) (show s.mtch.length = s.next.length by omega)
  have e3 := h.leads.spec'
  obtain ⟨r1, p0, p1⟩ := Option.bind_eq_some_iff.1 e3
  unfold spec_l4lead
  rw [show gl s.v 8 = s.votes from rfl, fuel_eq]
  refine Eq.trans (congrArg (fun o => Option.bind o _) e1) ?_
  simp only [Option.bind_some, spec_l4most]
  rw [wr64' (n := 2 * ((cntT s.votes : Nat) : Int)) (by omega) (by omega)]
  by_cases hm : ((s.votes.length : Nat) : Int) < 2 * ((cntT s.votes : Nat) : Int)
  case neg =>
    rw [show mostB s = false from decide_eq_false hm]
    simp only [gl_c0, gl_cs, hm, decide_false, Bool.not_false, cond_true, cond_false]
    rfl
  case pos =>
    rw [show mostB s = true from decide_eq_true hm]
    simp only [gl_c0, gl_cs, hm, decide_true, Bool.not_true, cond_false, cond_true, fuel_eq]
    refine Eq.trans (congrArg (fun o => Option.bind o _) e2) ?_
    simp only [Option.bind_some]
    by_cases hc : ((s.log.length : Nat) : Int) < 400
    · have hlog : s.lead'.log = s.log ++ [noopI s.term] := by show (bif decide (((s.log.length : Nat) : Int) < 400) then _ else _) = _; rw [decide_eq_true hc]; rfl
      simp only [hc, decide_true, cond_true]
      rw [roomyB (n := 0 + s.log.length) (by omega) (by omega), roomyB (n := s.log.length + 1) (by omega) (by omega)]
      simp only [cond_true]
      refine Eq.trans (congrArg (fun o => Option.bind o _) (show _ = some r1 from ?_)) ?_
      · rw [← p0]; unfold ND.v; rw [hlog]; rfl
      · simp only [Option.bind_some, p1]; rfl
    · have hlog : s.lead'.log = s.log := by show (bif decide (((s.log.length : Nat) : Int) < 400) then _ else _) = _; rw [decide_eq_false hc]; rfl
      simp only [hc, decide_false, cond_false]
      refine Eq.trans (congrArg (fun o => Option.bind o _) (show _ = some r1 from ?_)) ?_
      · rw [← p0]; unfold ND.v; rw [hlog]; rfl
      · simp only [Option.bind_some, p1]; rfl
end Go.Eng.R
open Go Go.Eng
namespace Go.Eng.R
def ND.clr (s : ND) : ND := { s with role := 0, votes := List.replicate s.votes.length (V.bool false), next := List.replicate s.next.length (V.int .i64 0), mtch := List.replicate s.mtch.length (V.int .i64 0) }
def ND.fol (s : ND) (t : Int) : ND := bif decide (s.term < t) then ({ s with term := t, vote := -1, lead := -1 } : ND).clr else s.clr
theorem impl_follow_eq (s : ND) (out : List V) (t : Int) : impl_server_follow (s.sv out) t = (s.fol t).sv out := by
  unfold impl_server_follow ND.fol
  have e8 : (gl (s.sv out) 8).drop (0 + (gl (s.sv out) 8).length) = [] := by simp
  have e9 : (gl (s.sv out) 9).drop (0 + (gl (s.sv out) 9).length) = [] := by simp
  have e10 : (gl (s.sv out) 10).drop (0 + (gl (s.sv out) 10).length) = [] := by simp
  rw [e8, e9, e10, show gi (s.sv out) 1 = s.term from rfl]
  simp only [List.append_nil]
  cases decide (s.term < t) <;> rfl
theorem spec_clr_run {s : ND} (hl : s.votes.length ≤ 1000) (h9 : s.next.length = s.votes.length) (h10 : s.mtch.length = s.votes.length) : spec_l4follow_l6 (s.votes.length + 1) 0 (s.c 1 2 3 4) s.log s.votes s.next s.mtch = some (s.c 1 2 3 4, s.log, s.clr.votes, s.clr.next, s.clr.mtch) := by
  have e9 : fillTo s.next (V.int .i64 0) s.votes.length = List.replicate s.next.length (V.int .i64 0) := by rw [← h9]; exact fillTo_all _ _
  have e10 : fillTo s.mtch (V.int .i64 0) s.votes.length = List.replicate s.mtch.length (V.int .i64 0) := by rw [← h10]; exact fillTo_all _ _
  refine loop_run0 (F := fun m (r : List V × List V × List V) i => spec_l4follow_l6 m i (s.c 1 2 3 4) s.log r.1 r.2.1 r.2.2) (n := s.votes.length) (fun i r => r = (fillTo s.votes (V.bool false) i, fillTo s.next (V.int .i64 0) i, fillTo s.mtch (V.int .i64 0) i)) (fun o => o = some (s.c 1 2 3 4, s.log, s.clr.votes, s.clr.next, s.clr.mtch)) ?_ ?_ (s := (s.votes, s.next, s.mtch)) rfl
  · intro m i r hi hI
    subst hI
    refine .inl ⟨_, ?_, rfl⟩
    show spec_l4follow_l6 (m + 1) (i : Int) _ _ _ _ _ = _
    rw [spec_l4follow_l6, ← fillTo_set hi, ← fillTo_set (l := s.next) (by omega), ← fillTo_set (l := s.mtch) (by omega)]
    have hlen : (fillTo s.votes (V.bool false) i).length = s.votes.length := fillTo_len (by omega)
    rw [hlen, show idxOk ((i : Nat) : Int) s.votes.length = true from idxOk_nat hi, show idxOk ((i : Nat) : Int) (fillTo s.next (V.int .i64 0) i).length = true from idxOk_nat (by rw [fillTo_len (by omega)]; omega), show idxOk ((i : Nat) : Int) (fillTo s.mtch (V.int .i64 0) i).length = true from idxOk_nat (by rw [fillTo_len (by omega)]; omega)]
    simp only [lt_nat hi, Int.toNat_natCast, Nat.zero_add, cond_true, wr_succ hi (show s.votes.length ≤ 9223372036854775807 by omega)]
    rfl
  · intro m r hI
    subst hI
    show spec_l4follow_l6 (m + 1) _ _ _ _ _ _ = _
    have hlen : (fillTo s.votes (V.bool false) s.votes.length).length = s.votes.length := fillTo_len (by omega)
    rw [spec_l4follow_l6, hlen, lt_self, fillTo_all, e9, e10]; rfl
theorem spec_follow_eq {s : ND} (t : Int) (hl : s.votes.length ≤ 1000) (h9 : s.next.length = s.votes.length) (h10 : s.mtch.length = s.votes.length) : spec_l4follow s.v t = some (s.fol t).v := by
  unfold spec_l4follow ND.fol
  have e1 := spec_clr_run (s := ({ s with term := t, vote := -1, lead := -1, role := 0 } : ND)) hl h9 h10
  have e2 := spec_clr_run (s := ({ s with role := 0 } : ND)) hl h9 h10
  rw [show gi s.v 1 = s.term from rfl, show gl s.v 8 = s.votes from rfl, fuel_eq]
  cases decide (s.term < t) with
  | true => exact Eq.trans (congrArg (fun o => Option.bind o _) e1) rfl
  | false => exact Eq.trans (congrArg (fun o => Option.bind o _) e2) rfl
def askN (s : ND) (i : Nat) : V := V.agg [(V.int .i64 0), (V.int .i64 s.id), (V.int .i64 (i : Int)), (V.int .i64 s.term), (V.int .i64 ((s.log.length : Nat) : Int)), (V.int .i64 (termL s.log s.log.length)), (V.inl t_impl_Item []), (V.int .i64 0), (V.bool false)]
def asksN (s : ND) (N : Nat) : List V := ((List.range N).filter fun i : Nat => !decide ((i : Int) = s.id)).map (askN s)
theorem asksN_succ (s : ND) (N : Nat) : asksN s (N + 1) = asksN s N ++ (bif decide ((N : Int) = s.id) then [] else [askN s N]) := by
  unfold asksN
  rw [List.range_succ, List.filter_append, List.map_append]
  congr 1
  by_cases h : (N : Int) = s.id <;> simp [h]
theorem asksN_len (s : ND) (N : Nat) : (asksN s N).length ≤ N := by
  unfold asksN
  rw [List.length_map]
  exact Nat.le_trans (List.length_filter_le _ _) (by simp)
theorem impl_lastTerm_eq {s : ND} (hL : s.log.length ≤ 1000) : impl_Node_lastTerm s.v = some (termL s.log s.log.length) := by
  unfold impl_Node_lastTerm
  have := impl_termAt_eq (n := s.v) (p := s.log.length) (show s.log.length ≤ _ by omega) (by omega)
  rw [show gl s.v 3 = s.log from rfl, this]; rfl
theorem impl_asks_eq {s : ND} {out : List V} (hv : s.votes.length ≤ 1000) (hL : s.log.length ≤ 1000) (ho : out.length ≤ 1000) :
    (Option.bind (impl_Node_others s.v) fun r => impl_server_tick_l11 ((((r.length : Nat) : Int) - 0).toNat + 1) ((r.length : Nat) : Int) 0 (s.b 2 3 4 5 6) r s.log s.votes s.next s.mtch out) = some (s.b 1 2 3 4 5, s.log, s.votes, s.next, s.mtch, out ++ asksN s s.votes.length) := by
  have hoth := impl_others_eq (n := s.v) (show s.votes.length ≤ 1000 from hv)
  rw [show n_impl_Node s.v = s.v from rfl, show gi s.v 0 = s.id from rfl, show gl s.v 8 = s.votes from rfl] at hoth
  let L : List Nat := (List.range s.votes.length).filter fun i : Nat => !decide ((i : Int) = s.id)
  have hL' : othersN s.id s.votes.length = L.map fun i : Nat => V.int .i64 (i : Int) := rfl
  have hM : asksN s s.votes.length = L.map (askN s) := rfl
  have hlen : L.length ≤ 1000 := Nat.le_trans (List.length_filter_le _ _) (by simpa using hv)
  have el := impl_lastTerm_eq (s := s) hL
  have el' : impl_Node_lastTerm (V.agg [(V.int .i64 s.id), (V.int .i64 s.term), (V.int .i64 s.vote), (V.inl t_impl_Item s.log), (V.int .i64 s.commit), (V.int .i64 s.role), (V.int .i64 s.lead), (V.int .i64 s.wait), (V.inl t_bool s.votes), (V.inl t_int' s.next), (V.inl t_int' s.mtch)]) = some (termL s.log s.log.length) := el
  have key := loop_run0 (F := fun m r i => impl_server_tick_l11 m (L.length : Int) i (s.b 2 3 4 5 6) (L.map fun i : Nat => V.int .i64 (i : Int)) s.log s.votes s.next s.mtch r) (n := L.length) (fun i r => r = out ++ (L.take i).map (askN s)) (fun o => o = some (s.b 1 2 3 4 5, s.log, s.votes, s.next, s.mtch, out ++ L.map (askN s))) ?_ ?_ (s := out) (by simp)
  · rw [hoth, hL', hM, Option.bind_some, fuel_eq, List.length_map]
    exact key
  · intro m i r hi hI
    have hrl : r.length ≤ 2000 := by rw [hI]; simp; omega
    have hrd : rd (L.map fun i : Nat => V.int .i64 (i : Int)) i = V.int .i64 ((L[i] : Nat) : Int) := by simp [rd, List.getD, hi]
    refine .inl ⟨r ++ [askN s L[i]], ?_, by rw [hI, List.take_add_one, List.getElem?_eq_getElem hi, List.map_append]; simp⟩
    show impl_server_tick_l11 (m + 1) _ (i : Int) _ _ _ _ _ _ _ = _
    rw [impl_server_tick_l11]
    simp only [ND.b, gi_c0, gi_cs, lt_nat hi, idxOk_nat (show i < (L.map fun i : Nat => V.int .i64 (i : Int)).length by simpa using hi), Int.toNat_natCast, Nat.zero_add, cond_true, hrd, show ∀ (k : IntKind) (x : Int), gi (V.int k x) 0 = x from fun _ _ => rfl, el', Option.bind_some, wr_succ hi (show L.length ≤ 9223372036854775807 by omega)]
    rw [roomyB (n := r.length + 1) (by omega) (by omega)]
    rfl
  · intro m r hI
    rw [List.take_length] at hI
    show impl_server_tick_l11 (m + 1) _ _ _ _ _ _ _ _ _ = _
    rw [impl_server_tick_l11, lt_self, hI]; rfl
theorem spec_asks_eq {s : ND} (hv : s.votes.length ≤ 1000) (hL : s.log.length ≤ 1000) : spec_l4tick_l17 (s.votes.length + 1) 0 (s.c 2 3 4 5) [] s.log s.votes s.next s.mtch = some (s.c 2 3 4 5, asksN s s.votes.length, s.log, s.votes, s.next, s.mtch) := by
  have et := spec_termAt_eq (n := s.v) (p := s.log.length) (show s.log.length ≤ _ by omega) (by omega)
  have et' : spec_l4termAt (V.agg [(V.int .i64 s.id), (V.int .i64 s.term), (V.int .i64 s.vote), (V.inl t_impl_Item s.log), (V.int .i64 s.commit), (V.int .i64 s.role), (V.int .i64 s.lead), (V.int .i64 s.wait), (V.inl t_bool s.votes), (V.inl t_int' s.next), (V.inl t_int' s.mtch)]) ((s.log.length : Nat) : Int) = some (termL s.log s.log.length) := et
  refine loop_run0 (F := fun m r i => spec_l4tick_l17 m i (s.c 2 3 4 5) r s.log s.votes s.next s.mtch) (n := s.votes.length) (fun i r => r = asksN s i) (fun o => o = some (s.c 2 3 4 5, asksN s s.votes.length, s.log, s.votes, s.next, s.mtch)) ?_ ?_ (s := []) rfl
  · intro m i r hi hI
    have hrl : r.length ≤ i := by rw [hI]; exact asksN_len _ _
    refine .inl ⟨asksN s (i + 1), ?_, rfl⟩
    show spec_l4tick_l17 (m + 1) (i : Int) _ _ _ _ _ _ = _
    rw [spec_l4tick_l17, asksN_succ, ← hI]
    simp only [ND.c, gi_c0, gi_cs, lt_nat hi, cond_true, wr_succ hi (show s.votes.length ≤ 9223372036854775807 by omega)]
    by_cases h : (i : Int) = s.id
    · simp only [h, decide_true, Bool.not_true, cond_false, cond_true, List.append_nil]
    · simp only [h, decide_false, Bool.not_false, cond_true, cond_false, et', Option.bind_some]
      rw [roomyB (n := r.length + 1) (by omega) (by omega)]
      rfl
  · intro m r hI
    show spec_l4tick_l17 (m + 1) _ _ _ _ _ _ _ = _
    rw [spec_l4tick_l17, lt_self, hI]; rfl
def ND.stand (s : ND) : ND := let f := ({ s with wait := s.wait + 1 } : ND).fol (s.term + 1); { f with role := 1, wait := 0, vote := f.id, votes := f.votes.set f.id.toNat (V.bool true) }
theorem stand_eq (s : ND) : s.stand = { id := s.id, term := s.term + 1, vote := s.id, log := s.log, commit := s.commit, role := 1, lead := -1, wait := 0, votes := (List.replicate s.votes.length (V.bool false)).set s.id.toNat (V.bool true), next := List.replicate s.next.length (V.int .i64 0), mtch := List.replicate s.mtch.length (V.int .i64 0) } := by
  unfold ND.stand ND.fol
  simp only [show (({ s with wait := s.wait + 1 } : ND).term < s.term + 1) = (s.term < s.term + 1) from rfl, show s.term < s.term + 1 from by omega, decide_true, cond_true]
  rfl
theorem OwnOk.cand {n : V} {k : Int} {s : ND} (h : OwnOk n k s) : CandOk s.stand := by
  obtain ⟨f0, f1, f2, f4, f5, f6, f7, f8, f9, f10⟩ := h.fields
  have hp := h.p; have hW := h.W; have hl := h.len; have hs := h.size
  have h8 := hp.lvotes; have h9 := hp.lnext; have h10 := hp.lmatch; have hk5 := hp.k5
  have c0 := hp.com0; have c1 := hp.com1; have i0 := hp.id0; have ik := hp.idk; have hle := hp.len; have t0 := hp.term0; have t1 := hp.term1
  rw [stand_eq]
  have r8 : ((List.replicate s.votes.length (V.bool false)).set s.id.toNat (V.bool true)).length = s.votes.length := by rw [List.length_set, List.length_replicate]
  have r9 : (List.replicate s.next.length (V.int .i64 0)).length = s.next.length := List.length_replicate
  have r10 : (List.replicate s.mtch.length (V.int .i64 0)).length = s.mtch.length := List.length_replicate
  have e8 : s.votes.length = (gl n 8).length := by rw [f8]
  have e9 : s.next.length = (gl n 9).length := by rw [f9]
  have e10 : s.mtch.length = (gl n 10).length := by rw [f10]
  refine ⟨⟨hW.1, ⟨by show (-9223372036854775808 : Int) ≤ s.term + 1; omega, by show s.term + 1 ≤ 9223372036854775807; omega⟩, hW.1, hW.2.2.2.1, hW.2.2.2.2.1, (show I64 1 from ⟨by decide, by decide⟩), I64_m1, I64_0, ?_, ?_, ?_⟩, ?_, ?_, ?_, ?_, ?_, ?_, ?_, ?_, ?_, h.nrm⟩
  · exact LW_set (w := W_bool) (LW_rep' (w := W_bool) (x := V.bool false) trivial (by omega)) trivial _
  · exact LW_rep' (w := W_int) (x := V.int .i64 0) I64_0 (by omega)
  · exact LW_rep' (w := W_int) (x := V.int .i64 0) I64_0 (by omega)
  · show 0 ≤ s.id; omega
  · show s.id < _; dsimp only; rw [r10]; omega
  · dsimp only; rw [r9, r10]; omega
  · dsimp only; rw [r8, r10]; omega
  · dsimp only; rw [r10]; omega
  · show s.log.length ≤ 400; omega
  · show 0 ≤ s.commit; omega
  · show s.commit ≤ _; dsimp only; omega
  · show zS z_Item s.log ≤ _; omega
theorem StepOk'.asks {s : ND} (h : CandOk s) : StepOk' s (asksN s s.votes.length) := by
  have hf := h.few; have hn := h.next; have hv := h.votes; have hl := h.log; have hz := h.size
  have hal := asksN_len s s.votes.length
  have hmem : ∀ m ∈ asksN s s.votes.length, ∃ i, i < s.votes.length ∧ m = askN s i := fun m hm => by
    obtain ⟨i, hi, rfl⟩ := List.mem_map.1 hm
    exact ⟨i, List.mem_range.1 (List.mem_filter.1 hi).1, rfl⟩
  have hW := h.W
  refine ⟨hW, h.nrm, by omega, by omega, by omega, by omega, ?_, by omega, ?_, ⟨by omega, ?_⟩, ?_⟩
  · unfold asksN
    rw [List.map_map]; rfl
  · intro m hm
    obtain ⟨i, hi, rfl⟩ := hmem m hm
    exact ⟨LW.nil, by show zS z_Item [] ≤ _; simp [zS, sumL]⟩
  · intro m hm
    obtain ⟨i, hi, rfl⟩ := hmem m hm
    refine ⟨I64_0, hW.1, ⟨by show (-9223372036854775808 : Int) ≤ (i : Int); omega, by show (i : Int) ≤ 9223372036854775807; omega⟩, hW.2.1, ⟨by show (-9223372036854775808 : Int) ≤ ((s.log.length : Nat) : Int); omega, by show ((s.log.length : Nat) : Int) ≤ 9223372036854775807; omega⟩, termN_I64 (n := s.v) hW s.log.length, LW.nil, I64_0, trivial⟩
  · have h1 := sumL_bound (f := c_Msg) (l := asksN s s.votes.length) (B := 100) fun m hm => by
      obtain ⟨i, hi, rfl⟩ := hmem m hm
      show 1 + 1 + 1 + 1 + 1 + 1 + sumL c_Item [] + 1 + 1 ≤ 100
      simp [sumL]
    have : (asksN s s.votes.length).length * 100 ≤ 5 * 100 := Nat.mul_le_mul_right _ (by omega)
    omega
set_option maxRecDepth 100000 in
theorem StepOk'.cand {s : ND} (h : CandOk s) : StepOk' (bif mostB s then s.lead'.adv else s) (bif mostB s then msgsN s.lead'.adv.v s.votes.length else []) := by
  have hf := h.few; have hn := h.next; have hv := h.votes; have hz := h.size; have hl := h.log
  cases mostB s with
  | true =>
    obtain ⟨l1, l2, l3, l4, l5, l6⟩ := h.leadLog
    exact StepOk'.led h.leads l5 l4
  | false =>
    show StepOk' s []
    exact StepOk'.none h.W h.nrm (by omega) (by omega) (by omega) (by omega)
end Go.Eng.R
open Go Go.Eng
namespace Go.Eng.R
def ND.idle (s : ND) : ND := { s with wait := mnI 20 (s.wait + 1) }
def tickN (s : ND) : ND × List V :=
  bif decide (s.role = 2) then (s, msgsN s.v s.votes.length)
  else bif decide (s.wait + 1 < 3 + 2 * s.id) then (s.idle, [])
  else bif decide (s.term = 100000) then (s.idle, [])
  else bif decide (s.votes.length = 1) then (bif mostB s.stand then s.stand.lead'.adv else s.stand, bif mostB s.stand then msgsN s.stand.lead'.adv.v s.stand.votes.length else [])
  else (s.stand, asksN s.stand s.stand.votes.length)
theorem mnI20 {x : Int} : mnI 20 x = bif decide (20 < x) then 20 else x := by
  unfold mnI
  by_cases h1 : (20 : Int) < x
  · by_cases h2 : x < 20
    · omega
    · simp [h1, h2]
  · by_cases h2 : x < 20
    · simp [h1, h2]
    · simp only [h1, h2, decide_false, cond_false, if_false]; omega
theorem stand_votes (s : ND) : s.stand.votes.length = s.votes.length := by
  rw [stand_eq]; show ((List.replicate _ _).set _ _).length = _
  rw [List.length_set, List.length_replicate]
theorem OwnOk.nexts {n : V} {k : Int} {s : ND} (h : OwnOk n k s) (h2 : s.role = 2) : ∀ i, i < s.votes.length → (i : Int) ≠ s.id → NextOk s.v i := fun i hi hne => by
  obtain ⟨f0, f1, f2, f4, f5, f6, f7, f8, f9, f10⟩ := h.fields
  have hp := h.p; have hl := h.len
  have h8 := hp.lvotes; have hle := hp.len
  rw [f8] at hi
  obtain ⟨q1, q2, q3, q4⟩ := nextOk_of hp (by rw [← f5]; exact h2) (to := i) (by omega)
  refine ⟨?_, ?_, ?_, ?_⟩
  · show i < s.next.length; rw [f9]; exact q1
  · show 1 ≤ gi (rd s.next i) 0; rw [f9]; exact q2
  · show gi (rd s.next i) 0 ≤ ((s.log.length : Nat) : Int) + 1; rw [f9]; omega
  · show s.log.length ≤ 401; omega
theorem tick_step {n : V} {k : Int} {s : ND} (h : OwnOk n k s) :
    spec_l4tick s.v = some ((tickN s).2, (tickN s).1.v) ∧ impl_server_tick (s.sv []) = some ((tickN s).1.sv (tickN s).2) ∧ StepOk' (tickN s).1 (tickN s).2 := by
  obtain ⟨f0, f1, f2, f4, f5, f6, f7, f8, f9, f10⟩ := h.fields
  have hp := h.p; have hs := h.size; have hl := h.len; have hW := h.W
  have h8 := hp.lvotes; have h9 := hp.lnext; have h10 := hp.lmatch; have hk5 := hp.k5
  have i0 := hp.id0; have ik := hp.idk; have hle := hp.len; have t0 := hp.term0; have t1 := hp.term1; have w0 := hp.wait0; have w1 := hp.wait1
  have hv5 : s.votes.length ≤ 5 := by rw [f8]; omega
  have hn5 : s.next.length ≤ 5 := by rw [f9]; omega
  have hm5 : s.mtch.length ≤ 5 := by rw [f10]; omega
  have hwr : IntKind.i64.wrap (s.wait + 1) = s.wait + 1 := wr64' (by omega) (by omega)
  have hw2 : IntKind.i64.wrap (3 + IntKind.i64.wrap (2 * s.id)) = 3 + 2 * s.id := by
    rw [wr64' (n := 2 * s.id) (by omega) (by omega), wr64' (by omega) (by omega)]
  have hidle : StepOk' s.idle [] := by
    refine StepOk'.none ⟨hW.1, hW.2.1, hW.2.2.1, hW.2.2.2.1, hW.2.2.2.2.1, hW.2.2.2.2.2.1, hW.2.2.2.2.2.2.1, ?_, hW.2.2.2.2.2.2.2.2.1, hW.2.2.2.2.2.2.2.2.2.1, hW.2.2.2.2.2.2.2.2.2.2⟩ h.nrm (show zS z_Item s.log ≤ _ by omega) hv5 hn5 hm5
    show I64 (mnI 20 (s.wait + 1))
    unfold mnI; split <;> exact ⟨by omega, by omega⟩
  have eidle : (bif decide ((20 : Int) < s.wait + 1) then some ([], ({ s with wait := 20 } : ND).v) else some ([], ({ s with wait := s.wait + 1 } : ND).v)) = some (([] : List V), s.idle.v) := by
    unfold ND.idle
    rw [mnI20]
    cases decide ((20 : Int) < s.wait + 1) <;> rfl
  unfold spec_l4tick impl_server_tick tickN
  rw [show gi s.v 5 = s.role from rfl, show gi (s.sv []) 5 = s.role from rfl, show gi s.v 7 = s.wait from rfl, show gi (s.sv []) 7 = s.wait from rfl, show gi s.v 0 = s.id from rfl, show gi (s.sv []) 0 = s.id from rfl, show gi s.v 1 = s.term from rfl, show gi (s.sv []) 1 = s.term from rfl, hwr, hw2]
  by_cases h2 : s.role = 2
  · have hN := h.nexts h2
    simp only [h2, decide_true, cond_true]
    have e1 := spec_l4all_v2_eq (s := s) hW (by omega) hN
    have e2 := impl_sendAll_eq (s := s) (out := []) hW (by omega) (by omega) hN (by simp)
    have hml := msgsN_len s.v s.votes.length
    refine ⟨?_, ?_, ⟨hW, h.nrm, by omega, hv5, hn5, hm5, msgs_own, by omega, msgs_items hW (by omega), msgs_W hW (by omega) hN, msgs_c (by omega) hv5⟩⟩
    · exact Eq.trans (congrArg (fun o => Option.bind o _) (show _ = some (msgsN s.v s.votes.length, s.v) from e1)) rfl
    · exact Eq.trans (congrArg (fun o => Option.bind o _) (show _ = some (s.sv ([] ++ msgsN s.v s.votes.length)) from e2)) rfl
  simp only [h2, decide_false, cond_false]
  by_cases hw : s.wait + 1 < 3 + 2 * s.id
  · simp only [hw, decide_true, cond_true]
    exact ⟨eidle, rfl, hidle⟩
  simp only [hw, decide_false, cond_false]
  by_cases ht : s.term = 100000
  · rw [decide_eq_true (show (100000 : Int) ≤ s.term by omega), decide_eq_true ht]
    exact ⟨eidle, rfl, hidle⟩
  rw [decide_eq_false (show ¬ (100000 : Int) ≤ s.term by omega), decide_eq_false ht]
  simp only [cond_false]
  rw [wr64' (n := s.term + 1) (by omega) (by omega)]
  have hC := h.cand
  have hsv := stand_votes s
  have f1s := spec_follow_eq (s := ({ s with wait := s.wait + 1 } : ND)) (s.term + 1) (show s.votes.length ≤ 1000 by omega) (show s.next.length = s.votes.length by rw [f8, f9]; omega) (show s.mtch.length = s.votes.length by rw [f8, f10]; omega)
  have f1i := impl_follow_eq ({ s with wait := s.wait + 1 } : ND) [] (s.term + 1)
  have hix : idxOk (({ s with wait := s.wait + 1 } : ND).fol (s.term + 1)).id (({ s with wait := s.wait + 1 } : ND).fol (s.term + 1)).votes.length = true := by
    have e : s.stand.votes.length = (({ s with wait := s.wait + 1 } : ND).fol (s.term + 1)).votes.length := List.length_set
    rw [← e, hsv]
    show idxOk (({ s with wait := s.wait + 1 } : ND).fol (s.term + 1)).id s.votes.length = true
    have : (({ s with wait := s.wait + 1 } : ND).fol (s.term + 1)).id = s.id := by
      unfold ND.fol; cases decide (({ s with wait := s.wait + 1 } : ND).term < s.term + 1) <;> rfl
    rw [this, show s.id = ((s.id.toNat : Nat) : Int) by omega]
    exact idxOk_nat (by rw [f8]; omega)
  have hone : ∀ {α : Type} (x y : α), (bif decide (((s.stand.votes.length : Nat) : Int) = 1) then x else y) = bif decide (s.votes.length = 1) then x else y := fun x y => by
    rw [hsv]
    by_cases h1 : s.votes.length = 1
    · rw [decide_eq_true h1, decide_eq_true (show ((s.votes.length : Nat) : Int) = 1 by omega)]
    · rw [decide_eq_false h1, decide_eq_false (show ¬ ((s.votes.length : Nat) : Int) = 1 by omega)]
  have ls := spec_lead_eq hC
  have li := impl_lead_eq hC (out := []) (by simp)
  have lk := StepOk'.cand hC
  have aS := spec_asks_eq (s := s.stand) (by omega) (by have := hC.log; omega)
  have ai := impl_asks_eq (s := s.stand) (out := []) (by omega) (by have := hC.log; omega) (by simp)
  have ak := StepOk'.asks hC
  refine ⟨?_, ?_, ?_⟩
  · refine Eq.trans (congrArg (fun o => Option.bind o _) (show _ = some (({ s with wait := s.wait + 1 } : ND).fol (s.term + 1)).v from f1s)) ?_
    rw [Option.bind_some]
    simp only [Nat.zero_add]
    refine Eq.trans (congrArg (fun b => bif b then _ else _) hix) ?_
    refine Eq.trans (hone _ _) ?_
    by_cases h1 : s.votes.length = 1
    · rw [decide_eq_true h1]
      refine Eq.trans (congrArg (fun o => Option.bind o _) (show _ = some _ from ls)) ?_
      cases mostB s.stand <;> rfl
    · rw [decide_eq_false h1]
      refine Eq.trans (congrArg (fun o => Option.bind o _) ((congrArg (fun m => spec_l4tick_l17 m 0 (s.stand.c 2 3 4 5) [] s.stand.log s.stand.votes s.stand.next s.stand.mtch) (fuel_eq s.stand.votes.length)).trans aS)) ?_
      rfl
  · refine Eq.trans (congrArg (fun x => rlet x _) (show _ = (({ s with wait := s.wait + 1 } : ND).fol (s.term + 1)).sv [] from f1i)) ?_
    unfold rlet
    simp only [Nat.zero_add]
    refine Eq.trans (congrArg (fun b => bif b then _ else _) hix) ?_
    refine Eq.trans (hone _ _) ?_
    by_cases h1 : s.votes.length = 1
    · rw [decide_eq_true h1]
      refine Eq.trans (congrArg (fun o => Option.bind o _) (show _ = some _ from li)) ?_
      cases mostB s.stand <;> rfl
    · rw [decide_eq_false h1]
      obtain ⟨r, p0, p1⟩ := Option.bind_eq_some_iff.1 ai
      refine Eq.trans (congrArg (fun o => Option.bind o _) (show _ = some r from p0)) ?_
      rw [Option.bind_some]
      refine Eq.trans (congrArg (fun o => Option.bind o _) (show _ = some _ from p1)) ?_
      rfl
  · by_cases h1 : s.votes.length = 1
    · rw [decide_eq_true h1]; exact lk
    · rw [decide_eq_false h1]; exact ak
theorem tick_eq {n : V} (hn : W_Node n) (hz : z_Node n ≤ 1048576) {k : Int} (hk : I64 k) :
    ∃ g l, spec_Tick (n_impl_Node n) k = some (g, l) ∧ impl_Tick (n_impl_Node n) k = some (g, l) ∧ W_Node g ∧ LW W_Msg l ∧ ct_Node g ≤ 100000000 ∧ sumL c_Msg l ≤ 600000000 := by
  have hzi : zS z_Item (gl n 3) ≤ 1048576 := by simp only [z_Node] at hz; omega
  unfold spec_Tick impl_Tick
  simp only [show n_impl_Node (n_impl_Node n) = n_impl_Node n from rfl, spec_NodeOk_eq hn, impl_NodeOk_eq hn k hk, Option.bind_some]
  cases hb : nodeB n k with
  | false => exact ⟨zeroN, [], rfl, rfl, zeroN_W, LW.nil, by decide, by decide⟩
  | true =>
    have hp : NodeP n k := by simpa [nodeB] using hb
    have h8 := hp.lvotes; have h9 := hp.lnext; have h10 := hp.lmatch; have hk5 := hp.k5
    have ei := impl_own_eq hn (by omega) (show (gl n 8).length ≤ 1000 by omega) (show (gl n 9).length ≤ 1000 by omega) (show (gl n 10).length ≤ 1000 by omega)
    have es := spec_own_eq hn (by omega) (show (gl n 8).length ≤ 1000 by omega) (show (gl n 9).length ≤ 1000 by omega) (show (gl n 10).length ≤ 1000 by omega)
    obtain ⟨e1, e2, e3⟩ := tick_step (own_ok hn hzi hp)
    obtain ⟨o1, o2, o3⟩ := e3.out
    refine ⟨(tickN (ownD n)).1.v, (tickN (ownD n)).2, ?_, ?_, e3.W, e3.msgs, o3, e3.marks⟩
    · simp only [Bool.not_true, cond_false, es, Option.bind_some, show n_impl_Node (ownD n).v = (ownD n).v from rfl, e1, o1, o2]
      rfl
    · simp only [Bool.not_true, cond_false, ei, Option.bind_some]
      refine Eq.trans (congrArg (fun o => Option.bind o _) (show _ = some ((tickN (ownD n)).1.sv (tickN (ownD n)).2) from e2)) ?_
      rfl
end Go.Eng.R
open Go Go.Eng
namespace Go.Eng.R
theorem law_Tick {n : V} (hn : W_Node n) {k : Int} (hk : I64 k) : laws_FnExactTick n k = some true := by
  unfold laws_FnExactTick
  obtain ⟨r, e, hr⟩ := laws_szNode_ok (n_laws_Node n) 1048576 hn (by omega) (by omega)
  simp only [e, Option.bind_some]
  rcases hr with hr | ⟨r0, r1, hz⟩
  · rw [decide_eq_true hr]; rfl
  rw [decide_eq_false (p := r < 0) (by omega), cond_false]
  have hz : r + ((z_Node n : Nat) : Int) = 1048576 := hz
  have hto : laws_toNode (n_laws_Node n) = some (cnv_Node n) := laws_toNode_ok (n_laws_Node n) hn (by show z_Node n ≤ _; omega)
  have hy : W_Node (cnv_Node n) := cnv_Node_W n hn
  have hyz : z_Node (cnv_Node n) ≤ 1048576 := by rw [cnv_Node_z]; omega
  obtain ⟨g, l, g1, g2, g3, g4, g5, g6⟩ := tick_eq hy hyz (k := k) hk
  have hct := ct_Node_cz (cnv_Node n)
  obtain ⟨b0, b1, b2, b3, f1, -⟩ := laws_markNode_ok (n_impl_Node (cnv_Node n)) 1 hy (by omega) (by show (1 : Int) + ((ct_Node (cnv_Node n) : Nat) : Int) ≤ _; omega)
  simp only [show ct_Node (n_impl_Node (cnv_Node n)) = ct_Node (cnv_Node n) from rfl] at f1
  obtain ⟨d0, d1, d2, d3, f2, q0', s0, q1', s1, q2', s2, q3', s3⟩ := laws_markNode_ok (n_impl_Node g) 1 g3 (by omega) (by show (1 : Int) + ((ct_Node g : Nat) : Int) ≤ _; omega)
  simp only [show ct_Node (n_impl_Node g) = ct_Node g from rfl] at f2
  obtain ⟨m0, f3, qm, sm⟩ := laws_markMsgS_ok l (1 + ((ct_Node g : Nat) : Int)) g4 (by omega) (by omega)
  have s0 : sumL c_Item d0 = sumL c_Item (gl g 3) := s0
  have s1 : sumL Go.Eng.c1 d1 = sumL Go.Eng.c1 (gl g 8) := s1
  have s2 : sumL Go.Eng.c1 d2 = sumL Go.Eng.c1 (gl g 9) := s2
  have s3 : sumL Go.Eng.c1 d3 = sumL Go.Eng.c1 (gl g 10) := s3
  have hc' : ct_Node (V.agg [(V.int .i64 (gi g 0)), (V.int .i64 (gi g 1)), (V.int .i64 (gi g 2)), (V.inl t_impl_Item d0), (V.int .i64 (gi g 4)), (V.int .i64 (gi g 5)), (V.int .i64 (gi g 6)), (V.int .i64 (gi g 7)), (V.inl t_bool d1), (V.inl t_int' d2), (V.inl t_int' d3)]) = ct_Node g := by
    simp only [ct_Node, gl_c0, gl_cs, s0, s1, s2, s3]
  have hh := laws_heldNode_ok (V.agg [(V.int .i64 (gi g 0)), (V.int .i64 (gi g 1)), (V.int .i64 (gi g 2)), (V.inl t_impl_Item d0), (V.int .i64 (gi g 4)), (V.int .i64 (gi g 5)), (V.int .i64 (gi g 6)), (V.int .i64 (gi g 7)), (V.inl t_bool d1), (V.inl t_int' d2), (V.inl t_int' d3)]) 1
    q0' (by simp only [gl_c0, gl_cs, s0]; exact q1') (by simp only [gl_c0, gl_cs, s0, s1]; exact q2') (by simp only [gl_c0, gl_cs, s0, s1, s2]; exact q3') (by omega) (by rw [hc']; omega)
  rw [hc'] at hh
  have hm := laws_heldMsgS_ok m0 (1 + ((ct_Node g : Nat) : Int)) qm (by omega) (by rw [sm]; omega)
  rw [sm] at hm
  have eq1 := laws_eqNode_ok (n_impl_Node g) g3
  have eq2 := laws_eqNode_ok (n_impl_Node (cnv_Node n)) hy
  have eq3 := laws_eqMsgS_ok l g4
  have n1 : ¬ (1 : Int) + ((ct_Node (cnv_Node n) : Nat) : Int) < 0 := by omega
  have n2 : ¬ (1 : Int) + ((ct_Node g : Nat) : Int) < 0 := by omega
  have n3 : ¬ (1 : Int) + ((ct_Node g : Nat) : Int) + ((sumL c_Msg l : Nat) : Int) < 0 := by omega
  simp only [hto, g1, g2, eq1, eq2, eq3, f1, f2, f3, hh, hm, n1, n2, n3, Option.bind_some, cond_false, Bool.not_true, beq_self_eq_true, decide_false, decide_true]
end Go.Eng.R
open Go Go.Eng
namespace Go.Eng.R
theorem wt_byte {x : V} (h : WtT tab t_byte x) : W_byte x := wt_u8 (h.cell 0 rfl)
theorem wt_laws_Item {x : V} (h : WtT tab t_laws_Item x) : W_Item x := ⟨wt_i64 (h.cell 0 rfl), wt_i64 (h.cell 1 rfl), wt_i64 (h.cell 2 rfl), wt_i64 (h.cell 3 rfl), wt_sl (h.cell 4 rfl) fun _ => wt_byte, wt_sl (h.cell 5 rfl) fun _ => wt_byte, wt_i64 (h.cell 6 rfl)⟩
theorem wt_bool {x : V} (h : WtT tab t_bool x) : W_bool x := trivial
theorem wt_int_ {x : V} (h : WtT tab t_int' x) : W_int x := wt_i64 (h.cell 0 rfl)
theorem wt_laws_Node {x : V} (h : WtT tab t_laws_Node x) : W_Node x := ⟨wt_i64 (h.cell 0 rfl), wt_i64 (h.cell 1 rfl), wt_i64 (h.cell 2 rfl), wt_sl (h.cell 3 rfl) fun _ => wt_laws_Item, wt_i64 (h.cell 4 rfl), wt_i64 (h.cell 5 rfl), wt_i64 (h.cell 6 rfl), wt_i64 (h.cell 7 rfl), wt_sl (h.cell 8 rfl) fun _ => wt_bool, wt_sl (h.cell 9 rfl) fun _ => wt_int_, wt_sl (h.cell 10 rfl) fun _ => wt_int_⟩
def readable : List TypeId := [3, 4, 5, 22, 23, 24, 26, 43, 45, 47, 120]
end Go.Eng.R
