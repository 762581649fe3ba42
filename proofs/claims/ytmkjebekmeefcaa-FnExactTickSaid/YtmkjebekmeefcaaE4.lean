/- An own evaluator of the program's form, proved sound, and what it says of this law's functions: part 4. -/
import Derived.Test.YtmkjebekmeefcaaE3
set_option linter.unusedVariables false
open Go Go.Eng Go.Proofs
namespace Go.Eng.R
def spec_CmdOk_c : Cfg := ⟨tab, sumsOf [(105, spec_OpOk_s)], fun _ => false, fun f => (look [(105, [none])] f).getD [], false, fun _ => false⟩
theorem spec_CmdOk_c_ok : SumsOk Try.prog tab spec_CmdOk_c.sums := sums_cons f105_en spec_OpOk_s_ok (sums_nil)
abbrev spec_CmdOk_L : Loops := noL
def spec_CmdOk_sh (r_ : Bool) : V × List V := ((V.bool r_), [])
set_option maxRecDepth 100000 in
theorem spec_CmdOk_e (c : V) : Agr (wkF [[.dead]] []) spec_CmdOk_sh (spec_CmdOk c) (evalFn spec_CmdOk_c spec_CmdOk_L Try.f64 [(n_laws_Cmd c)]) := by
  have h : evalFn spec_CmdOk_c spec_CmdOk_L Try.f64 [(n_laws_Cmd c)] = (bif (decide ((gi c 0) = (-1))) then bif (decide ((gi c 1) = 0)) then bif (decide ((gi c 2) = 0)) then rcall (spec_OpOk (V.agg [(vi (gi c 2)), (V.inl t_byte (gl c 3)), (V.inl t_byte (gl c 4)), (vi (gi c 5))])) fun r24 => some ((V.bool r24), []) else some ((V.bool false), []) else some ((V.bool false), []) else bif (decide ((0 : Int) ≤ (gi c 0))) then bif (decide ((gi c 0) < 4)) then bif (decide ((1 : Int) ≤ (gi c 1))) then bif (decide ((gi c 1) ≤ 1000000)) then rcall (spec_OpOk (V.agg [(vi (gi c 2)), (V.inl t_byte (gl c 3)), (V.inl t_byte (gl c 4)), (vi (gi c 5))])) fun r25 => some ((V.bool r25), []) else some ((V.bool false), []) else some ((V.bool false), []) else some ((V.bool false), []) else some ((V.bool false), [])) := by kernel_rfl
  rw [h, spec_CmdOk]
  clear h
  repeat' (first | exact A0 | refine A1 ?_ ?_ | refine A2 fun _ => ?_ | refine A3 fun _ => ?_ | exact A4 (by kernel_rfl))
def spec_CmdOk_A : List S2 := [(.agg q1)]
def spec_CmdOk_F (args : List V) : Option (Bool) := spec_CmdOk (rd args 0)
def spec_CmdOk_s (args : List V) : Option (Bool × (V × List V)) := bif argsOk spec_CmdOk_A args then some ((spec_CmdOk_F args).isSome, spec_CmdOk_sh ((spec_CmdOk_F args).getD default)) else none
theorem spec_CmdOk_s_ok : ∀ args r, spec_CmdOk_s args = some (true, r) → SumOk Try.prog tab 64 args r :=
  Base.sum (cfg := spec_CmdOk_c) (F := spec_CmdOk_F) (shr := spec_CmdOk_sh) base spec_CmdOk_c_ok Try.func64 (by kernel_rfl) noLo spec_CmdOk_A (by kernel_rfl) [[.dead]] [] (by kernel_rfl) fun args h => by
    have q := spec_CmdOk_e (rd args 0)
    rw [show [(n_laws_Cmd (rd args 0))] = args from h] at q
    exact q
def spec_ItemOk_c : Cfg := ⟨tab, sumsOf [(64, spec_CmdOk_s)], fun _ => false, fun f => (look [(64, [none])] f).getD [], false, fun _ => false⟩
theorem spec_ItemOk_c_ok : SumsOk Try.prog tab spec_ItemOk_c.sums := sums_cons f64_en spec_CmdOk_s_ok (sums_nil)
abbrev spec_ItemOk_L : Loops := noL
def spec_ItemOk_sh (r_ : Bool) : V × List V := ((V.bool r_), [])
theorem spec_ItemOk_e (x : V) : Agr (wkF [[.dead]] []) spec_ItemOk_sh (spec_ItemOk x) (evalFn spec_ItemOk_c spec_ItemOk_L Try.f86 [(n_impl_Item x)]) := by
  have h : evalFn spec_ItemOk_c spec_ItemOk_L Try.f86 [(n_impl_Item x)] = (bif (decide ((1 : Int) ≤ (gi x 0))) then bif (decide ((gi x 0) ≤ 100000)) then rcall (spec_CmdOk (V.agg [(vi (gi x 1)), (vi (gi x 2)), (vi (gi x 3)), (V.inl t_byte (gl x 4)), (V.inl t_byte (gl x 5)), (vi (gi x 6))])) fun r26 => some ((V.bool r26), []) else some ((V.bool false), []) else some ((V.bool false), [])) := by kernel_rfl
  rw [h, spec_ItemOk]
  clear h
  repeat' (first | exact A0 | refine A1 ?_ ?_ | refine A2 fun _ => ?_ | refine A3 fun _ => ?_ | exact A4 (by kernel_rfl))
def spec_ItemOk_A : List S2 := [(.agg q2)]
def spec_ItemOk_F (args : List V) : Option (Bool) := spec_ItemOk (rd args 0)
def spec_ItemOk_s (args : List V) : Option (Bool × (V × List V)) := bif argsOk spec_ItemOk_A args then some ((spec_ItemOk_F args).isSome, spec_ItemOk_sh ((spec_ItemOk_F args).getD default)) else none
theorem spec_ItemOk_s_ok : ∀ args r, spec_ItemOk_s args = some (true, r) → SumOk Try.prog tab 86 args r :=
  Base.sum (cfg := spec_ItemOk_c) (F := spec_ItemOk_F) (shr := spec_ItemOk_sh) base spec_ItemOk_c_ok Try.func86 (by kernel_rfl) noLo spec_ItemOk_A (by kernel_rfl) [[.dead]] [] (by kernel_rfl) fun args h => by
    have q := spec_ItemOk_e (rd args 0)
    rw [show [(n_impl_Item (rd args 0))] = args from h] at q
    exact q
def spec_NodeOk_c : Cfg := ⟨tab, sumsOf [(83, spec_l4servers_s), (84, spec_l3term_s), (85, spec_l4who_s), (86, spec_ItemOk_s)], fun _ => false, fun f => (look [(83, [none]), (84, [none]), (85, [none, none]), (86, [none])] f).getD [], false, fun _ => false⟩
theorem spec_NodeOk_c_ok : SumsOk Try.prog tab spec_NodeOk_c.sums := sums_cons f83_en spec_l4servers_s_ok (sums_cons f84_en spec_l3term_s_ok (sums_cons f85_en spec_l4who_s_ok (sums_cons f86_en spec_ItemOk_s_ok (sums_nil))))
def spec_NodeOk_l4_F (st : St) : Option (Nat × Int × Bool × V) := spec_NodeOk_l4 (((((gl (bc st 0) 3).length : Nat) : Int) - ((sv st 2).I)).toNat + 1) ((sv st 0).I) ((sv st 2).I) (bc st 0)
def spec_NodeOk_l4_ps (r_ : Nat × Int × Bool × V) : List (Ex × St) := [(Ex.ret, (⟨[(1, (vi r_.2.1)), (2, (V.bp 0 0)), (4, (V.bool r_.2.2.1))], [(0, some (Blk.box t_impl_Node (l12 r_.2.2.2)))], 1, []⟩ : St)), ((Ex.exit 0), (⟨[(1, (vi r_.2.1)), (2, (V.bp 0 0)), (4, V.dead)], [(0, some (Blk.box t_impl_Node (l12 r_.2.2.2)))], 1, []⟩ : St))]
def spec_NodeOk_l4_ss : SS := ⟨[(1, (.one (.int .i64))), (2, (.one (.bp 0 0))), (5, (.one (.int .i64)))], [(.box t_impl_Node q13)], 1, []⟩
def spec_NodeOk_l4_e : LE := ⟨4, spec_NodeOk_l4_ss, fun st => Out.tst (spec_NodeOk_l4_F st).isSome (brs ((fun r_ => r_.1) ((spec_NodeOk_l4_F st).getD default)) 0 (spec_NodeOk_l4_ps ((spec_NodeOk_l4_F st).getD default)))⟩
def spec_NodeOk_l11_F (st : St) : Option (Nat × Bool × V) := spec_NodeOk_l11 ((((sv st 0).I) - ((sv st 2).I)).toNat + 1) ((sv st 0).I) ((sv st 2).I) (bc st 0)
def spec_NodeOk_l11_ps (r_ : Nat × Bool × V) : List (Ex × St) := [(Ex.ret, (⟨[(2, (V.bp 0 0)), (4, (V.bool r_.2.1))], [(0, some (Blk.box t_impl_Node (l12 r_.2.2)))], 1, []⟩ : St)), ((Ex.exit 2), (⟨[(2, (V.bp 0 0)), (4, V.dead)], [(0, some (Blk.box t_impl_Node (l12 r_.2.2)))], 1, []⟩ : St))]
def spec_NodeOk_l11_ss : SS := ⟨[(1, (.one (.int .i64))), (2, (.one (.bp 0 0))), (6, (.one (.int .i64)))], [(.box t_impl_Node q13)], 1, []⟩
def spec_NodeOk_l11_e : LE := ⟨11, spec_NodeOk_l11_ss, fun st => Out.tst (spec_NodeOk_l11_F st).isSome (brs ((fun r_ => r_.1) ((spec_NodeOk_l11_F st).getD default)) 0 (spec_NodeOk_l11_ps ((spec_NodeOk_l11_F st).getD default)))⟩
def spec_NodeOk_L : Loops := ⟨fun k => (look [(4, [1, 2, 5]), (11, [1, 2, 6])] k).getD [], fun k => (look [] k).getD [], fun k => (look [(4, [1, 2, 4]), (11, [2, 4])] k).getD [], runL [spec_NodeOk_l4_e, spec_NodeOk_l11_e]⟩
set_option maxRecDepth 100000 in
theorem spec_NodeOk_l4_ok (k_ : Nat) : ∀ (servers1 : Int) (i5 : Int) (b0 : V), Agr id (fun r_ => pick (r_.1) 0 (spec_NodeOk_l4_ps r_)) (spec_NodeOk_l4 k_ servers1 i5 b0) (rounds spec_NodeOk_c spec_NodeOk_L ((loopsIn (bodyOf Try.f33)).getD 0 .skip) k_ (⟨[(1, (vi servers1)), (2, (V.bp 0 0)), (5, (vi i5))], [(0, some (Blk.box t_impl_Node (l12 b0)))], 1, []⟩ : St)) := by
  induction k_ with
  | zero => intros; exact A0
  | succ k_ ih =>
    intro servers1 i5 b0
    have h : rounds spec_NodeOk_c spec_NodeOk_L ((loopsIn (bodyOf Try.f33)).getD 0 .skip) (k_ + 1) (⟨[(1, (vi servers1)), (2, (V.bp 0 0)), (5, (vi i5))], [(0, some (Blk.box t_impl_Node (l12 b0)))], 1, []⟩ : St) = (bif (decide (i5 < (((gl b0 3).length : Nat) : Int))) then bif (idxOk i5 ((gl b0 3).length)) then rcall (spec_ItemOk (n_impl_Item (rd (gl b0 3) i5.toNat))) fun r27 => bif (!r27) then some (Ex.ret, (⟨[(1, (vi servers1)), (2, (V.bp 0 0)), (4, (V.bool false))], [(0, some (Blk.box t_impl_Node (l12 b0)))], 1, []⟩ : St)) else bif (idxOk i5 ((gl b0 3).length)) then bif (decide ((gi b0 1) < (gi (rd (gl b0 3) i5.toNat) 0))) then some (Ex.ret, (⟨[(1, (vi servers1)), (2, (V.bp 0 0)), (4, (V.bool false))], [(0, some (Blk.box t_impl_Node (l12 b0)))], 1, []⟩ : St)) else bif (decide ((0 : Int) < i5)) then bif (idxOk (w6 (i5 - 1)) ((gl b0 3).length)) then bif (idxOk i5 ((gl b0 3).length)) then bif (decide ((gi (rd (gl b0 3) i5.toNat) 0) < (gi (rd (gl b0 3) ((w6 (i5 - 1)).toNat)) 0))) then some (Ex.ret, (⟨[(1, (vi servers1)), (2, (V.bp 0 0)), (4, (V.bool false))], [(0, some (Blk.box t_impl_Node (l12 b0)))], 1, []⟩ : St)) else rounds spec_NodeOk_c spec_NodeOk_L ((loopsIn (bodyOf Try.f33)).getD 0 .skip) k_ (⟨[(1, (vi servers1)), (2, (V.bp 0 0)), (5, (vi (w6 (i5 + 1))))], [(0, some (Blk.box t_impl_Node (l12 b0)))], 1, []⟩ : St) else none else none else rounds spec_NodeOk_c spec_NodeOk_L ((loopsIn (bodyOf Try.f33)).getD 0 .skip) k_ (⟨[(1, (vi servers1)), (2, (V.bp 0 0)), (5, (vi (w6 (i5 + 1))))], [(0, some (Blk.box t_impl_Node (l12 b0)))], 1, []⟩ : St) else none else none else some ((Ex.exit 0), (⟨[(1, (vi servers1)), (2, (V.bp 0 0)), (4, V.dead)], [(0, some (Blk.box t_impl_Node (l12 b0)))], 1, []⟩ : St))) := by kernel_rfl
    rw [h, spec_NodeOk_l4]
    clear h
    repeat' (first | exact A0 | refine A1 ?_ ?_ | refine A2 fun _ => ?_ | refine A3 fun _ => ?_ | exact A4 (by kernel_rfl) | exact ih _ _ _)
set_option maxRecDepth 100000 in
theorem spec_NodeOk_l11_ok (k_ : Nat) : ∀ (servers1 : Int) (i6 : Int) (b0 : V), Agr id (fun r_ => pick (r_.1) 0 (spec_NodeOk_l11_ps r_)) (spec_NodeOk_l11 k_ servers1 i6 b0) (rounds spec_NodeOk_c spec_NodeOk_L ((loopsIn (bodyOf Try.f33)).getD 1 .skip) k_ (⟨[(1, (vi servers1)), (2, (V.bp 0 0)), (6, (vi i6))], [(0, some (Blk.box t_impl_Node (l12 b0)))], 1, []⟩ : St)) := by
  induction k_ with
  | zero => intros; exact A0
  | succ k_ ih =>
    intro servers1 i6 b0
    have h : rounds spec_NodeOk_c spec_NodeOk_L ((loopsIn (bodyOf Try.f33)).getD 1 .skip) (k_ + 1) (⟨[(1, (vi servers1)), (2, (V.bp 0 0)), (6, (vi i6))], [(0, some (Blk.box t_impl_Node (l12 b0)))], 1, []⟩ : St) = (bif (decide (i6 < servers1)) then bif (decide ((gi b0 5) = 2)) then bif (idxOk i6 ((gl b0 9).length)) then bif (decide ((gi (rd (gl b0 9) i6.toNat) 0) < 1)) then some (Ex.ret, (⟨[(2, (V.bp 0 0)), (4, (V.bool false))], [(0, some (Blk.box t_impl_Node (l12 b0)))], 1, []⟩ : St)) else bif (idxOk i6 ((gl b0 9).length)) then bif (decide ((w6 ((((gl b0 3).length : Nat) : Int) + 1)) < (gi (rd (gl b0 9) i6.toNat) 0))) then some (Ex.ret, (⟨[(2, (V.bp 0 0)), (4, (V.bool false))], [(0, some (Blk.box t_impl_Node (l12 b0)))], 1, []⟩ : St)) else bif (idxOk i6 ((gl b0 10).length)) then bif (decide ((gi (rd (gl b0 10) i6.toNat) 0) < 0)) then some (Ex.ret, (⟨[(2, (V.bp 0 0)), (4, (V.bool false))], [(0, some (Blk.box t_impl_Node (l12 b0)))], 1, []⟩ : St)) else bif (idxOk i6 ((gl b0 10).length)) then bif (decide ((((gl b0 3).length : Nat) : Int) < (gi (rd (gl b0 10) i6.toNat) 0))) then some (Ex.ret, (⟨[(2, (V.bp 0 0)), (4, (V.bool false))], [(0, some (Blk.box t_impl_Node (l12 b0)))], 1, []⟩ : St)) else bif (!(decide ((gi b0 5) = 2))) then bif (idxOk i6 ((gl b0 9).length)) then bif (!(decide ((gi (rd (gl b0 9) i6.toNat) 0) = 0))) then some (Ex.ret, (⟨[(2, (V.bp 0 0)), (4, (V.bool false))], [(0, some (Blk.box t_impl_Node (l12 b0)))], 1, []⟩ : St)) else bif (idxOk i6 ((gl b0 10).length)) then bif (!(decide ((gi (rd (gl b0 10) i6.toNat) 0) = 0))) then some (Ex.ret, (⟨[(2, (V.bp 0 0)), (4, (V.bool false))], [(0, some (Blk.box t_impl_Node (l12 b0)))], 1, []⟩ : St)) else bif (decide ((gi b0 5) = 0)) then bif (idxOk i6 ((gl b0 8).length)) then bif (gb (rd (gl b0 8) i6.toNat) 0) then some (Ex.ret, (⟨[(2, (V.bp 0 0)), (4, (V.bool false))], [(0, some (Blk.box t_impl_Node (l12 b0)))], 1, []⟩ : St)) else rounds spec_NodeOk_c spec_NodeOk_L ((loopsIn (bodyOf Try.f33)).getD 1 .skip) k_ (⟨[(1, (vi servers1)), (2, (V.bp 0 0)), (6, (vi (w6 (i6 + 1))))], [(0, some (Blk.box t_impl_Node (l12 b0)))], 1, []⟩ : St) else none else rounds spec_NodeOk_c spec_NodeOk_L ((loopsIn (bodyOf Try.f33)).getD 1 .skip) k_ (⟨[(1, (vi servers1)), (2, (V.bp 0 0)), (6, (vi (w6 (i6 + 1))))], [(0, some (Blk.box t_impl_Node (l12 b0)))], 1, []⟩ : St) else none else none else bif (decide ((gi b0 5) = 0)) then bif (idxOk i6 ((gl b0 8).length)) then bif (gb (rd (gl b0 8) i6.toNat) 0) then some (Ex.ret, (⟨[(2, (V.bp 0 0)), (4, (V.bool false))], [(0, some (Blk.box t_impl_Node (l12 b0)))], 1, []⟩ : St)) else rounds spec_NodeOk_c spec_NodeOk_L ((loopsIn (bodyOf Try.f33)).getD 1 .skip) k_ (⟨[(1, (vi servers1)), (2, (V.bp 0 0)), (6, (vi (w6 (i6 + 1))))], [(0, some (Blk.box t_impl_Node (l12 b0)))], 1, []⟩ : St) else none else rounds spec_NodeOk_c spec_NodeOk_L ((loopsIn (bodyOf Try.f33)).getD 1 .skip) k_ (⟨[(1, (vi servers1)), (2, (V.bp 0 0)), (6, (vi (w6 (i6 + 1))))], [(0, some (Blk.box t_impl_Node (l12 b0)))], 1, []⟩ : St) else none else none else none else none else bif (!(decide ((gi b0 5) = 2))) then bif (idxOk i6 ((gl b0 9).length)) then bif (!(decide ((gi (rd (gl b0 9) i6.toNat) 0) = 0))) then some (Ex.ret, (⟨[(2, (V.bp 0 0)), (4, (V.bool false))], [(0, some (Blk.box t_impl_Node (l12 b0)))], 1, []⟩ : St)) else bif (idxOk i6 ((gl b0 10).length)) then bif (!(decide ((gi (rd (gl b0 10) i6.toNat) 0) = 0))) then some (Ex.ret, (⟨[(2, (V.bp 0 0)), (4, (V.bool false))], [(0, some (Blk.box t_impl_Node (l12 b0)))], 1, []⟩ : St)) else bif (decide ((gi b0 5) = 0)) then bif (idxOk i6 ((gl b0 8).length)) then bif (gb (rd (gl b0 8) i6.toNat) 0) then some (Ex.ret, (⟨[(2, (V.bp 0 0)), (4, (V.bool false))], [(0, some (Blk.box t_impl_Node (l12 b0)))], 1, []⟩ : St)) else rounds spec_NodeOk_c spec_NodeOk_L ((loopsIn (bodyOf Try.f33)).getD 1 .skip) k_ (⟨[(1, (vi servers1)), (2, (V.bp 0 0)), (6, (vi (w6 (i6 + 1))))], [(0, some (Blk.box t_impl_Node (l12 b0)))], 1, []⟩ : St) else none else rounds spec_NodeOk_c spec_NodeOk_L ((loopsIn (bodyOf Try.f33)).getD 1 .skip) k_ (⟨[(1, (vi servers1)), (2, (V.bp 0 0)), (6, (vi (w6 (i6 + 1))))], [(0, some (Blk.box t_impl_Node (l12 b0)))], 1, []⟩ : St) else none else none else bif (decide ((gi b0 5) = 0)) then bif (idxOk i6 ((gl b0 8).length)) then bif (gb (rd (gl b0 8) i6.toNat) 0) then some (Ex.ret, (⟨[(2, (V.bp 0 0)), (4, (V.bool false))], [(0, some (Blk.box t_impl_Node (l12 b0)))], 1, []⟩ : St)) else rounds spec_NodeOk_c spec_NodeOk_L ((loopsIn (bodyOf Try.f33)).getD 1 .skip) k_ (⟨[(1, (vi servers1)), (2, (V.bp 0 0)), (6, (vi (w6 (i6 + 1))))], [(0, some (Blk.box t_impl_Node (l12 b0)))], 1, []⟩ : St) else none else rounds spec_NodeOk_c spec_NodeOk_L ((loopsIn (bodyOf Try.f33)).getD 1 .skip) k_ (⟨[(1, (vi servers1)), (2, (V.bp 0 0)), (6, (vi (w6 (i6 + 1))))], [(0, some (Blk.box t_impl_Node (l12 b0)))], 1, []⟩ : St) else some ((Ex.exit 2), (⟨[(2, (V.bp 0 0)), (4, V.dead)], [(0, some (Blk.box t_impl_Node (l12 b0)))], 1, []⟩ : St))) := by kernel_rfl
    rw [h, spec_NodeOk_l11]
    clear h
    repeat' (first | exact A0 | refine A1 ?_ ?_ | refine A2 fun _ => ?_ | refine A3 fun _ => ?_ | exact A4 (by kernel_rfl) | exact ih _ _ _)
theorem spec_NodeOk_lo : LoopsOk spec_NodeOk_c spec_NodeOk_L (bodyOf Try.f33) := by
  refine GoodAll.ok (l := [spec_NodeOk_l4_e, spec_NodeOk_l11_e]) ?_ rfl
  refine GoodAll.cons 0 (by kernel_rfl) ?_ ?_
  · exact good_of (key := 4) (ss := spec_NodeOk_l4_ss) (F := spec_NodeOk_l4_F) (ix := fun r_ => r_.1) (ps := spec_NodeOk_l4_ps) (fun st => ((((gl (bc st 0) 3).length : Nat) : Int) - ((sv st 2).I)).toNat + 1) fun st h => by
      have q := spec_NodeOk_l4_ok (((((gl (bc st 0) 3).length : Nat) : Int) - ((sv st 2).I)).toNat + 1) ((sv st 0).I) ((sv st 2).I) (bc st 0)
      rw [show (⟨[(1, (vi ((sv st 0).I))), (2, (V.bp 0 0)), (5, (vi ((sv st 2).I)))], [(0, some (Blk.box t_impl_Node (l12 (bc st 0))))], 1, []⟩ : St) = st from h] at q
      exact q
  refine GoodAll.cons 1 (by kernel_rfl) ?_ ?_
  · exact good_of (key := 11) (ss := spec_NodeOk_l11_ss) (F := spec_NodeOk_l11_F) (ix := fun r_ => r_.1) (ps := spec_NodeOk_l11_ps) (fun st => (((sv st 0).I) - ((sv st 2).I)).toNat + 1) fun st h => by
      have q := spec_NodeOk_l11_ok ((((sv st 0).I) - ((sv st 2).I)).toNat + 1) ((sv st 0).I) ((sv st 2).I) (bc st 0)
      rw [show (⟨[(1, (vi ((sv st 0).I))), (2, (V.bp 0 0)), (6, (vi ((sv st 2).I)))], [(0, some (Blk.box t_impl_Node (l12 (bc st 0))))], 1, []⟩ : St) = st from h] at q
      exact q
  exact GoodAll.nil
def spec_NodeOk_sh (r_ : Bool) : V × List V := ((V.bool r_), [])
set_option maxRecDepth 100000 in
theorem spec_NodeOk_e (n : V) (servers : Int) : Agr (wkF [[.dead]] []) spec_NodeOk_sh (spec_NodeOk n servers) (evalFn spec_NodeOk_c spec_NodeOk_L Try.f33 [(n_impl_Node n), (vi servers)]) := by
  have h : evalFn spec_NodeOk_c spec_NodeOk_L Try.f33 [(n_impl_Node n), (vi servers)] = (bif (!(spec_l4servers servers)) then some ((V.bool false), []) else bif (decide ((gi n 0) < 0)) then some ((V.bool false), []) else bif (decide (servers ≤ (gi n 0))) then some ((V.bool false), []) else bif (!(spec_l3term (gi n 1))) then some ((V.bool false), []) else bif (!(spec_l4who (gi n 2) servers)) then some ((V.bool false), []) else bif (decide ((400 : Int) < (((gl n 3).length : Nat) : Int))) then some ((V.bool false), []) else bif (decide ((gi n 4) < 0)) then some ((V.bool false), []) else bif (decide ((((gl n 3).length : Nat) : Int) < (gi n 4))) then some ((V.bool false), []) else bif (decide ((gi n 5) < 0)) then some ((V.bool false), []) else bif (decide ((2 : Int) < (gi n 5))) then some ((V.bool false), []) else bif (!(spec_l4who (gi n 6) servers)) then some ((V.bool false), []) else bif (decide ((gi n 7) < 0)) then some ((V.bool false), []) else bif (decide ((20 : Int) < (gi n 7))) then some ((V.bool false), []) else bif (!(decide ((((gl n 8).length : Nat) : Int) = servers))) then some ((V.bool false), []) else bif (!(decide ((((gl n 9).length : Nat) : Int) = servers))) then some ((V.bool false), []) else bif (!(decide ((((gl n 10).length : Nat) : Int) = servers))) then some ((V.bool false), []) else rcall (spec_NodeOk_l4 (((((gl (n_impl_Node n) 3).length : Nat) : Int) - 0).toNat + 1) servers 0 (n_impl_Node n)) fun r28 => bif (Nat.beq r28.1 0) then some ((V.bool r28.2.2.1), []) else bif (!(decide ((gi r28.2.2.2 5) = 0))) then bif (decide ((gi r28.2.2.2 1) < 1)) then some ((V.bool false), []) else bif (!(decide ((gi r28.2.2.2 2) = (gi r28.2.2.2 0)))) then some ((V.bool false), []) else rcall (spec_NodeOk_l11 ((r28.2.1 - 0).toNat + 1) r28.2.1 0 (n_impl_Node r28.2.2.2)) fun r29 => bif (Nat.beq r29.1 0) then some ((V.bool r29.2.1), []) else bif (!(decide ((gi r29.2.2 5) = 2))) then some ((V.bool true), []) else some ((V.bool (decide ((gi r29.2.2 6) = (gi r29.2.2 0)))), []) else rcall (spec_NodeOk_l11 ((r28.2.1 - 0).toNat + 1) r28.2.1 0 (n_impl_Node r28.2.2.2)) fun r30 => bif (Nat.beq r30.1 0) then some ((V.bool r30.2.1), []) else bif (!(decide ((gi r30.2.2 5) = 2))) then some ((V.bool true), []) else some ((V.bool (decide ((gi r30.2.2 6) = (gi r30.2.2 0)))), [])) := by kernel_rfl
  rw [h, spec_NodeOk]
  clear h
  repeat' (first | exact A0 | refine A1 ?_ ?_ | refine A2 fun _ => ?_ | refine A3 fun _ => ?_ | exact A4 (by kernel_rfl))
def spec_NodeOk_A : List S2 := [(.agg q13), (.one (.int .i64))]
def spec_NodeOk_F (args : List V) : Option (Bool) := spec_NodeOk (rd args 0) ((rd args 1).I)
def spec_NodeOk_s (args : List V) : Option (Bool × (V × List V)) := bif argsOk spec_NodeOk_A args then some ((spec_NodeOk_F args).isSome, spec_NodeOk_sh ((spec_NodeOk_F args).getD default)) else none
theorem spec_NodeOk_s_ok : ∀ args r, spec_NodeOk_s args = some (true, r) → SumOk Try.prog tab 33 args r :=
  Base.sum (cfg := spec_NodeOk_c) (F := spec_NodeOk_F) (shr := spec_NodeOk_sh) base spec_NodeOk_c_ok Try.func33 (by kernel_rfl) spec_NodeOk_lo spec_NodeOk_A (by kernel_rfl) [[.dead]] [] (by kernel_rfl) fun args h => by
    have q := spec_NodeOk_e (rd args 0) ((rd args 1).I)
    rw [show [(n_impl_Node (rd args 0)), (vi ((rd args 1).I))] = args from h] at q
    exact q
def spec_l3ownItem_c : Cfg := ⟨tab, sumsOf [], fun _ => false, fun f => (look [] f).getD [], false, fun _ => false⟩
theorem spec_l3ownItem_c_ok : SumsOk Try.prog tab spec_l3ownItem_c.sums := sums_nil
abbrev spec_l3ownItem_L : Loops := noL
def spec_l3ownItem_sh (r_ : V) : V × List V := ((h8 r_), [])
theorem spec_l3ownItem_e (x : V) : Agr (wkF [q9] []) spec_l3ownItem_sh (spec_l3ownItem x) (evalFn spec_l3ownItem_c spec_l3ownItem_L Try.f96 [(n_impl_Item x)]) := by
  have h : evalFn spec_l3ownItem_c spec_l3ownItem_L Try.f96 [(n_impl_Item x)] = (bif ((roomy (0 + ((gl x 4).length)) 1) && true) then bif ((roomy (0 + ((gl x 5).length)) 1) && true) then some ((h8 x), []) else none else none) := by kernel_rfl
  rw [h, spec_l3ownItem]
  clear h
  repeat' (first | exact A0 | refine A1 ?_ ?_ | refine A2 fun _ => ?_ | refine A3 fun _ => ?_ | exact A4 (by kernel_rfl))
def spec_l3ownItem_A : List S2 := [(.agg q2)]
def spec_l3ownItem_F (args : List V) : Option (V) := spec_l3ownItem (rd args 0)
def spec_l3ownItem_s (args : List V) : Option (Bool × (V × List V)) := bif argsOk spec_l3ownItem_A args then some ((spec_l3ownItem_F args).isSome, spec_l3ownItem_sh ((spec_l3ownItem_F args).getD default)) else none
theorem spec_l3ownItem_s_ok : ∀ args r, spec_l3ownItem_s args = some (true, r) → SumOk Try.prog tab 96 args r :=
  Base.sum (cfg := spec_l3ownItem_c) (F := spec_l3ownItem_F) (shr := spec_l3ownItem_sh) base spec_l3ownItem_c_ok Try.func96 (by kernel_rfl) noLo spec_l3ownItem_A (by kernel_rfl) [q9] [] (by kernel_rfl) fun args h => by
    have q := spec_l3ownItem_e (rd args 0)
    rw [show [(n_impl_Item (rd args 0))] = args from h] at q
    exact q
def spec_l3ownItems_c : Cfg := ⟨tab, sumsOf [(96, spec_l3ownItem_s)], fun _ => false, fun f => (look [(96, [none])] f).getD [], false, fun _ => false⟩
theorem spec_l3ownItems_c_ok : SumsOk Try.prog tab spec_l3ownItems_c.sums := sums_cons f96_en spec_l3ownItem_s_ok (sums_nil)
def spec_l3ownItems_l3_F (st : St) : Option (List V) := spec_l3ownItems_l3 ((((((sv st 0).L).length : Nat) : Int) - ((sv st 2).I)).toNat + 1) ((sv st 0).L) ((sv st 2).I) (br st 0)
def spec_l3ownItems_l3_ps (r_ : List V) : List (Ex × St) := [((Ex.exit 0), (⟨[(3, (vs 0 t_impl_Item))], [(0, some (Blk.row t_impl_Item true r_))], 1, []⟩ : St))]
def spec_l3ownItems_l3_ss : SS := ⟨[(0, (.one (.inl t_impl_Item))), (3, (.one (.sl 0 t_impl_Item))), (4, (.one (.int .i64)))], [(.row t_impl_Item true)], 1, []⟩
def spec_l3ownItems_l3_e : LE := ⟨3, spec_l3ownItems_l3_ss, fun st => Out.tst (spec_l3ownItems_l3_F st).isSome (brs ((fun r_ => 0) ((spec_l3ownItems_l3_F st).getD default)) 0 (spec_l3ownItems_l3_ps ((spec_l3ownItems_l3_F st).getD default)))⟩
def spec_l3ownItems_L : Loops := ⟨fun k => (look [(3, [0, 3, 4])] k).getD [], fun k => (look [(3, [⟨3, none, true⟩])] k).getD [], fun k => (look [(3, [3])] k).getD [], runL [spec_l3ownItems_l3_e]⟩
theorem spec_l3ownItems_l3_ok (k_ : Nat) : ∀ (l0 : List V) (i4 : Int) (r0 : List V), Agr id (fun r_ => pick (0) 0 (spec_l3ownItems_l3_ps r_)) (spec_l3ownItems_l3 k_ l0 i4 r0) (rounds spec_l3ownItems_c spec_l3ownItems_L ((loopsIn (bodyOf Try.f42)).getD 0 .skip) k_ (⟨[(0, (V.inl t_impl_Item l0)), (3, (vs 0 t_impl_Item)), (4, (vi i4))], [(0, some (Blk.row t_impl_Item true r0))], 1, []⟩ : St)) := by
  induction k_ with
  | zero => intros; exact A0
  | succ k_ ih =>
    intro l0 i4 r0
    have h : rounds spec_l3ownItems_c spec_l3ownItems_L ((loopsIn (bodyOf Try.f42)).getD 0 .skip) (k_ + 1) (⟨[(0, (V.inl t_impl_Item l0)), (3, (vs 0 t_impl_Item)), (4, (vi i4))], [(0, some (Blk.row t_impl_Item true r0))], 1, []⟩ : St) = (bif (decide (i4 < (ln l0))) then bif (idxOk i4 l0.length) then rcall (spec_l3ownItem (n_impl_Item (rd l0 i4.toNat))) fun r32 => bif ((roomy (r0.length + 1) 88) && true) then rounds spec_l3ownItems_c spec_l3ownItems_L ((loopsIn (bodyOf Try.f42)).getD 0 .skip) k_ (⟨[(0, (V.inl t_impl_Item l0)), (3, (vs 0 t_impl_Item)), (4, (vi (w6 (i4 + 1))))], [(0, some (Blk.row t_impl_Item true (r0 ++ [(n_impl_Item r32)])))], 1, []⟩ : St) else none else none else some ((Ex.exit 0), (⟨[(3, (vs 0 t_impl_Item))], [(0, some (Blk.row t_impl_Item true r0))], 1, []⟩ : St))) := by kernel_rfl
    rw [h, spec_l3ownItems_l3]
    clear h
    repeat' (first | exact A0 | refine A1 ?_ ?_ | refine A2 fun _ => ?_ | refine A3 fun _ => ?_ | exact A4 (by kernel_rfl) | exact ih _ _ _)
theorem spec_l3ownItems_lo : LoopsOk spec_l3ownItems_c spec_l3ownItems_L (bodyOf Try.f42) := by
  refine GoodAll.ok (l := [spec_l3ownItems_l3_e]) ?_ rfl
  refine GoodAll.cons 0 (by kernel_rfl) ?_ ?_
  · exact good_of (key := 3) (ss := spec_l3ownItems_l3_ss) (F := spec_l3ownItems_l3_F) (ix := fun r_ => 0) (ps := spec_l3ownItems_l3_ps) (fun st => (((((sv st 0).L).length : Nat) : Int) - ((sv st 2).I)).toNat + 1) fun st h => by
      have q := spec_l3ownItems_l3_ok ((((((sv st 0).L).length : Nat) : Int) - ((sv st 2).I)).toNat + 1) ((sv st 0).L) ((sv st 2).I) (br st 0)
      rw [show (⟨[(0, (V.inl t_impl_Item ((sv st 0).L))), (3, (vs 0 t_impl_Item)), (4, (vi ((sv st 2).I)))], [(0, some (Blk.row t_impl_Item true (br st 0)))], 1, []⟩ : St) = st from h] at q
      exact q
  exact GoodAll.nil
def spec_l3ownItems_sh (r_ : List V) : V × List V := ((V.rr t_impl_Item true r_), [])
theorem spec_l3ownItems_e (l : List V) : Agr (wkF [[(.rr t_impl_Item true)]] []) spec_l3ownItems_sh (spec_l3ownItems l) (evalFn spec_l3ownItems_c spec_l3ownItems_L Try.f42 [(V.inl t_impl_Item l)]) := by
  have h : evalFn spec_l3ownItems_c spec_l3ownItems_L Try.f42 [(V.inl t_impl_Item l)] = (rcall (spec_l3ownItems_l3 (((ln l) - 0).toNat + 1) l 0 []) fun r33 => some ((V.rr t_impl_Item true r33), [])) := by kernel_rfl
  rw [h, spec_l3ownItems]
  clear h
  repeat' (first | exact A0 | refine A1 ?_ ?_ | refine A2 fun _ => ?_ | refine A3 fun _ => ?_ | exact A4 (by kernel_rfl))
def spec_l3ownItems_A : List S2 := [(.one (.inl t_impl_Item))]
def spec_l3ownItems_F (args : List V) : Option (List V) := spec_l3ownItems ((rd args 0).L)
def spec_l3ownItems_s (args : List V) : Option (Bool × (V × List V)) := bif argsOk spec_l3ownItems_A args then some ((spec_l3ownItems_F args).isSome, spec_l3ownItems_sh ((spec_l3ownItems_F args).getD default)) else none
theorem spec_l3ownItems_s_ok : ∀ args r, spec_l3ownItems_s args = some (true, r) → SumOk Try.prog tab 42 args r :=
  Base.sum (cfg := spec_l3ownItems_c) (F := spec_l3ownItems_F) (shr := spec_l3ownItems_sh) base spec_l3ownItems_c_ok Try.func42 (by kernel_rfl) spec_l3ownItems_lo spec_l3ownItems_A (by kernel_rfl) [[(.rr t_impl_Item true)]] [] (by kernel_rfl) fun args h => by
    have q := spec_l3ownItems_e ((rd args 0).L)
    rw [show [(V.inl t_impl_Item ((rd args 0).L))] = args from h] at q
    exact q
def spec_l4own_c : Cfg := ⟨tab, sumsOf [(42, spec_l3ownItems_s)], fun _ => false, fun f => (look [(42, [some t_impl_Item])] f).getD [], false, fun _ => false⟩
theorem spec_l4own_c_ok : SumsOk Try.prog tab spec_l4own_c.sums := sums_cons f42_en spec_l3ownItems_s_ok (sums_nil)
abbrev spec_l4own_L : Loops := noL
def spec_l4own_sh (r_ : V) : V × List V := ((h10 r_), [])
theorem spec_l4own_e (n : V) : Agr (wkF [q11] []) spec_l4own_sh (spec_l4own n) (evalFn spec_l4own_c spec_l4own_L Try.f65 [(n_impl_Node n)]) := by
  have h : evalFn spec_l4own_c spec_l4own_L Try.f65 [(n_impl_Node n)] = (rcall (spec_l3ownItems (gl n 3)) fun r34 => bif ((roomy (0 + ((gl n 8).length)) 1) && true) then bif ((roomy (0 + ((gl n 9).length)) 8) && true) then bif ((roomy (0 + ((gl n 10).length)) 8) && true) then some ((V.agg [(vi (gi n 0)), (vi (gi n 1)), (vi (gi n 2)), (V.rr t_impl_Item true r34), (vi (gi n 4)), (vi (gi n 5)), (vi (gi n 6)), (vi (gi n 7)), (V.rr t_bool true (gl n 8)), (V.rr t_int' true (gl n 9)), (V.rr t_int' true (gl n 10))]), []) else none else none else none) := by kernel_rfl
  rw [h, spec_l4own]
  clear h
  repeat' (first | exact A0 | refine A1 ?_ ?_ | refine A2 fun _ => ?_ | refine A3 fun _ => ?_ | exact A4 (by kernel_rfl))
def spec_l4own_A : List S2 := [(.agg q13)]
def spec_l4own_F (args : List V) : Option (V) := spec_l4own (rd args 0)
def spec_l4own_s (args : List V) : Option (Bool × (V × List V)) := bif argsOk spec_l4own_A args then some ((spec_l4own_F args).isSome, spec_l4own_sh ((spec_l4own_F args).getD default)) else none
theorem spec_l4own_s_ok : ∀ args r, spec_l4own_s args = some (true, r) → SumOk Try.prog tab 65 args r :=
  Base.sum (cfg := spec_l4own_c) (F := spec_l4own_F) (shr := spec_l4own_sh) base spec_l4own_c_ok Try.func65 (by kernel_rfl) noLo spec_l4own_A (by kernel_rfl) [q11] [] (by kernel_rfl) fun args h => by
    have q := spec_l4own_e (rd args 0)
    rw [show [(n_impl_Node (rd args 0))] = args from h] at q
    exact q
def spec_l4termAt_c : Cfg := ⟨tab, sumsOf [], fun _ => false, fun f => (look [] f).getD [], false, fun _ => false⟩
theorem spec_l4termAt_c_ok : SumsOk Try.prog tab spec_l4termAt_c.sums := sums_nil
abbrev spec_l4termAt_L : Loops := noL
def spec_l4termAt_sh (r_ : Int) : V × List V := ((vi r_), [])
theorem spec_l4termAt_e (n : V) (place : Int) : Agr (wkF [[.dead]] []) spec_l4termAt_sh (spec_l4termAt n place) (evalFn spec_l4termAt_c spec_l4termAt_L Try.f81 [(V.ep (l12 n) 0), (vi place)]) := by
  have h : evalFn spec_l4termAt_c spec_l4termAt_L Try.f81 [(V.ep (l12 n) 0), (vi place)] = (bif (decide (place < 1)) then some ((vi 0), []) else bif (decide ((((gl n 3).length : Nat) : Int) < place)) then some ((vi 0), []) else bif (idxOk (w6 (place - 1)) ((gl n 3).length)) then some ((vi (gi (rd (gl n 3) ((w6 (place - 1)).toNat)) 0)), []) else none) := by kernel_rfl
  rw [h, spec_l4termAt]
  clear h
  repeat' (first | exact A0 | refine A1 ?_ ?_ | refine A2 fun _ => ?_ | refine A3 fun _ => ?_ | exact A4 (by kernel_rfl))
def spec_l4termAt_A : List S2 := [(.ep q13 0), (.one (.int .i64))]
def spec_l4termAt_F (args : List V) : Option (Int) := spec_l4termAt ((rd args 0).unbox) ((rd args 1).I)
def spec_l4termAt_s (args : List V) : Option (Bool × (V × List V)) := bif argsOk spec_l4termAt_A args then some ((spec_l4termAt_F args).isSome, spec_l4termAt_sh ((spec_l4termAt_F args).getD default)) else none
theorem spec_l4termAt_s_ok : ∀ args r, spec_l4termAt_s args = some (true, r) → SumOk Try.prog tab 81 args r :=
  Base.sum (cfg := spec_l4termAt_c) (F := spec_l4termAt_F) (shr := spec_l4termAt_sh) base spec_l4termAt_c_ok Try.func81 (by kernel_rfl) noLo spec_l4termAt_A (by kernel_rfl) [[.dead]] [] (by kernel_rfl) fun args h => by
    have q := spec_l4termAt_e ((rd args 0).unbox) ((rd args 1).I)
    rw [show [(V.ep (l12 ((rd args 0).unbox)) 0), (vi ((rd args 1).I))] = args from h] at q
    exact q
def spec_l4add_v3_c : Cfg := ⟨tab, sumsOf [(81, spec_l4termAt_s)], fun _ => false, fun f => (look [(81, [none, none])] f).getD [], false, fun f => Nat.beq f 81⟩
theorem spec_l4add_v3_c_ok : SumsOk Try.prog tab spec_l4add_v3_c.sums := sums_cons f81_en spec_l4termAt_s_ok (sums_nil)
def spec_l4add_v3_l4_F (st : St) : Option (V × V × V × List V × List V × List V × List V × List V × List V) := spec_l4add_v3_l4 (((((br st 3).length : Nat) : Int) - ((sv st 3).I)).toNat + 1) ((sv st 3).I) (bc st 0) (bc st 1) (bc st 2) (br st 3) (br st 4) (br st 5) (br st 6) (br st 7) (br st 8)
def spec_l4add_v3_l4_ps (r_ : V × V × V × List V × List V × List V × List V × List V × List V) : List (Ex × St) := [((Ex.exit 0), (⟨[(4, (V.bp 1 0)), (6, (V.bp 2 0))], [(0, some (Blk.box t_impl_Node (l14 r_.1))), (1, some (Blk.box t_impl_Msg (l15 r_.2.1))), (2, some (Blk.box t_impl_Msg (l16 r_.2.2.1))), (3, some (Blk.row t_impl_Item true r_.2.2.2.1)), (4, some (Blk.row t_bool true r_.2.2.2.2.1)), (5, some (Blk.row t_int' true r_.2.2.2.2.2.1)), (6, some (Blk.row t_int' true r_.2.2.2.2.2.2.1)), (7, some (Blk.row t_impl_Item true r_.2.2.2.2.2.2.2.1)), (8, some (Blk.row t_impl_Item false r_.2.2.2.2.2.2.2.2))], 9, [0]⟩ : St))]
def spec_l4add_v3_l4_ss : SS := ⟨[(0, (.one (.bp 0 0))), (4, (.one (.bp 1 0))), (6, (.one (.bp 2 0))), (7, (.one (.int .i64)))], [(.box t_impl_Node q17), (.box t_impl_Msg q18), (.box t_impl_Msg q19), (.row t_impl_Item true), (.row t_bool true), (.row t_int' true), (.row t_int' true), (.row t_impl_Item true), (.row t_impl_Item false)], 9, [0]⟩
def spec_l4add_v3_l4_e : LE := ⟨4, spec_l4add_v3_l4_ss, fun st => Out.tst (spec_l4add_v3_l4_F st).isSome (brs ((fun r_ => 0) ((spec_l4add_v3_l4_F st).getD default)) 0 (spec_l4add_v3_l4_ps ((spec_l4add_v3_l4_F st).getD default)))⟩
def spec_l4add_v3_L : Loops := ⟨fun k => (look [(4, [0, 4, 6, 7])] k).getD [], fun k => (look [(4, [⟨4, some 6, true⟩, ⟨6, some 6, false⟩])] k).getD [], fun k => (look [(4, [4, 6])] k).getD [], runL [spec_l4add_v3_l4_e]⟩
theorem spec_l4add_v3_l4_ok (k_ : Nat) : ∀ (i7 : Int) (b0 : V) (b1 : V) (b2 : V) (r3 : List V) (r4 : List V) (r5 : List V) (r6 : List V) (r7 : List V) (r8 : List V), Agr id (fun r_ => pick (0) 0 (spec_l4add_v3_l4_ps r_)) (spec_l4add_v3_l4 k_ i7 b0 b1 b2 r3 r4 r5 r6 r7 r8) (rounds spec_l4add_v3_c spec_l4add_v3_L ((loopsIn (bodyOf Try.f58)).getD 0 .skip) k_ (⟨[(0, (V.bp 0 0)), (4, (V.bp 1 0)), (6, (V.bp 2 0)), (7, (vi i7))], [(0, some (Blk.box t_impl_Node (l14 b0))), (1, some (Blk.box t_impl_Msg (l15 b1))), (2, some (Blk.box t_impl_Msg (l16 b2))), (3, some (Blk.row t_impl_Item true r3)), (4, some (Blk.row t_bool true r4)), (5, some (Blk.row t_int' true r5)), (6, some (Blk.row t_int' true r6)), (7, some (Blk.row t_impl_Item true r7)), (8, some (Blk.row t_impl_Item false r8))], 9, [0]⟩ : St)) := by
  induction k_ with
  | zero => intros; exact A0
  | succ k_ ih =>
    intro i7 b0 b1 b2 r3 r4 r5 r6 r7 r8
    have h : rounds spec_l4add_v3_c spec_l4add_v3_L ((loopsIn (bodyOf Try.f58)).getD 0 .skip) (k_ + 1) (⟨[(0, (V.bp 0 0)), (4, (V.bp 1 0)), (6, (V.bp 2 0)), (7, (vi i7))], [(0, some (Blk.box t_impl_Node (l14 b0))), (1, some (Blk.box t_impl_Msg (l15 b1))), (2, some (Blk.box t_impl_Msg (l16 b2))), (3, some (Blk.row t_impl_Item true r3)), (4, some (Blk.row t_bool true r4)), (5, some (Blk.row t_int' true r5)), (6, some (Blk.row t_int' true r6)), (7, some (Blk.row t_impl_Item true r7)), (8, some (Blk.row t_impl_Item false r8))], 9, [0]⟩ : St) = (bif (decide (i7 < (ln r3))) then bif (decide ((ln r8) < 4)) then bif (idxOk i7 r3.length) then bif ((roomy (r8.length + 1) 88) && true) then rounds spec_l4add_v3_c spec_l4add_v3_L ((loopsIn (bodyOf Try.f58)).getD 0 .skip) k_ (⟨[(0, (V.bp 0 0)), (4, (V.bp 1 0)), (6, (V.bp 2 0)), (7, (vi (w6 (i7 + 1))))], [(0, some (Blk.box t_impl_Node (l14 b0))), (1, some (Blk.box t_impl_Msg (l15 b1))), (2, some (Blk.box t_impl_Msg (l16 b2))), (3, some (Blk.row t_impl_Item true r3)), (4, some (Blk.row t_bool true r4)), (5, some (Blk.row t_int' true r5)), (6, some (Blk.row t_int' true r6)), (7, some (Blk.row t_impl_Item true r7)), (8, some (Blk.row t_impl_Item false (r8 ++ [(n_impl_Item (rd r3 (0 + i7.toNat)))])))], 9, [0]⟩ : St) else none else none else some ((Ex.exit 0), (⟨[(4, (V.bp 1 0)), (6, (V.bp 2 0))], [(0, some (Blk.box t_impl_Node (l14 b0))), (1, some (Blk.box t_impl_Msg (l15 b1))), (2, some (Blk.box t_impl_Msg (l16 b2))), (3, some (Blk.row t_impl_Item true r3)), (4, some (Blk.row t_bool true r4)), (5, some (Blk.row t_int' true r5)), (6, some (Blk.row t_int' true r6)), (7, some (Blk.row t_impl_Item true r7)), (8, some (Blk.row t_impl_Item false r8))], 9, [0]⟩ : St)) else some ((Ex.exit 0), (⟨[(4, (V.bp 1 0)), (6, (V.bp 2 0))], [(0, some (Blk.box t_impl_Node (l14 b0))), (1, some (Blk.box t_impl_Msg (l15 b1))), (2, some (Blk.box t_impl_Msg (l16 b2))), (3, some (Blk.row t_impl_Item true r3)), (4, some (Blk.row t_bool true r4)), (5, some (Blk.row t_int' true r5)), (6, some (Blk.row t_int' true r6)), (7, some (Blk.row t_impl_Item true r7)), (8, some (Blk.row t_impl_Item false r8))], 9, [0]⟩ : St))) := by kernel_rfl
    rw [h, spec_l4add_v3_l4]
    clear h
    repeat' (first | exact A0 | refine A1 ?_ ?_ | refine A2 fun _ => ?_ | refine A3 fun _ => ?_ | exact A4 (by kernel_rfl) | exact ih _ _ _ _ _ _ _ _ _ _)
theorem spec_l4add_v3_lo : LoopsOk spec_l4add_v3_c spec_l4add_v3_L (bodyOf Try.f58) := by
  refine GoodAll.ok (l := [spec_l4add_v3_l4_e]) ?_ rfl
  refine GoodAll.cons 0 (by kernel_rfl) ?_ ?_
  · exact good_of (key := 4) (ss := spec_l4add_v3_l4_ss) (F := spec_l4add_v3_l4_F) (ix := fun r_ => 0) (ps := spec_l4add_v3_l4_ps) (fun st => ((((br st 3).length : Nat) : Int) - ((sv st 3).I)).toNat + 1) fun st h => by
      have q := spec_l4add_v3_l4_ok (((((br st 3).length : Nat) : Int) - ((sv st 3).I)).toNat + 1) ((sv st 3).I) (bc st 0) (bc st 1) (bc st 2) (br st 3) (br st 4) (br st 5) (br st 6) (br st 7) (br st 8)
      rw [show (⟨[(0, (V.bp 0 0)), (4, (V.bp 1 0)), (6, (V.bp 2 0)), (7, (vi ((sv st 3).I)))], [(0, some (Blk.box t_impl_Node (l14 (bc st 0)))), (1, some (Blk.box t_impl_Msg (l15 (bc st 1)))), (2, some (Blk.box t_impl_Msg (l16 (bc st 2)))), (3, some (Blk.row t_impl_Item true (br st 3))), (4, some (Blk.row t_bool true (br st 4))), (5, some (Blk.row t_int' true (br st 5))), (6, some (Blk.row t_int' true (br st 6))), (7, some (Blk.row t_impl_Item true (br st 7))), (8, some (Blk.row t_impl_Item false (br st 8)))], 9, [0]⟩ : St) = st from h] at q
      exact q
  exact GoodAll.nil
def spec_l4add_v3_sh (r_ : V × V) : V × List V := ((h20 r_.1), [(V.rf t_impl_Node (l21 r_.2))])
theorem spec_l4add_v3_e (n : V) (to : Int) : Agr (wkF [q22] [q11]) spec_l4add_v3_sh (spec_l4add_v3 n to) (evalFn spec_l4add_v3_c spec_l4add_v3_L Try.f58 [(V.rf t_impl_Node (l21 n)), (vi to)]) := by
  have h : evalFn spec_l4add_v3_c spec_l4add_v3_L Try.f58 [(V.rf t_impl_Node (l21 n)), (vi to)] = (bif (idxOk to ((gl n 9).length)) then rcall (spec_l4termAt (n_impl_Node n) (w6 ((gi (rd (gl n 9) (0 + to.toNat)) 0) - 1))) fun r47 => rcall (spec_l4add_v3_l4 (((((gl n 3).length : Nat) : Int) - (w6 ((gi (rd (gl n 9) (0 + to.toNat)) 0) - 1))).toNat + 1) (w6 ((gi (rd (gl n 9) (0 + to.toNat)) 0) - 1)) (h23 n) (V.agg [(vi 0), (vi 0), (vi 0), (vi 0), (vi 0), (vi 0), (vs 7 t_impl_Item), (vi 0), (V.bool false)]) (V.agg [(vi 2), (vi (gi n 0)), (vi to), (vi (gi n 1)), (vi (w6 ((gi (rd (gl n 9) (0 + to.toNat)) 0) - 1))), (vi r47), (vs 8 t_impl_Item), (vi (gi n 4)), (V.bool false)]) (gl n 3) (gl n 8) (gl n 9) (gl n 10) [] []) fun r48 => some ((V.agg [(vi (gi r48.2.2.1 0)), (vi (gi r48.2.2.1 1)), (vi (gi r48.2.2.1 2)), (vi (gi r48.2.2.1 3)), (vi (gi r48.2.2.1 4)), (vi (gi r48.2.2.1 5)), (V.rr t_impl_Item false r48.2.2.2.2.2.2.2.2), (vi (gi r48.2.2.1 7)), (V.bool (gb r48.2.2.1 8))]), [(V.rf t_impl_Node [(vi (gi r48.1 0)), (vi (gi r48.1 1)), (vi (gi r48.1 2)), (V.rr t_impl_Item true r48.2.2.2.1), (vi (gi r48.1 4)), (vi (gi r48.1 5)), (vi (gi r48.1 6)), (vi (gi r48.1 7)), (V.rr t_bool true r48.2.2.2.2.1), (V.rr t_int' true r48.2.2.2.2.2.1), (V.rr t_int' true r48.2.2.2.2.2.2.1)])]) else none) := by kernel_rfl
  rw [h, spec_l4add_v3]
  clear h
  repeat' (first | exact A0 | refine A1 ?_ ?_ | refine A2 fun _ => ?_ | refine A3 fun _ => ?_ | exact A4 (by kernel_rfl))
def spec_l4add_v3_A : List S2 := [(.rf t_impl_Node q24), (.one (.int .i64))]
def spec_l4add_v3_F (args : List V) : Option (V × V) := spec_l4add_v3 ((rd args 0).unbox) ((rd args 1).I)
def spec_l4add_v3_s (args : List V) : Option (Bool × (V × List V)) := bif argsOk spec_l4add_v3_A args then some ((spec_l4add_v3_F args).isSome, spec_l4add_v3_sh ((spec_l4add_v3_F args).getD default)) else none
theorem spec_l4add_v3_s_ok : ∀ args r, spec_l4add_v3_s args = some (true, r) → SumOk Try.prog tab 58 args r :=
  Base.sum (cfg := spec_l4add_v3_c) (F := spec_l4add_v3_F) (shr := spec_l4add_v3_sh) base spec_l4add_v3_c_ok Try.func58 (by kernel_rfl) spec_l4add_v3_lo spec_l4add_v3_A (by kernel_rfl) [q22] [q11] (by kernel_rfl) fun args h => by
    have q := spec_l4add_v3_e ((rd args 0).unbox) ((rd args 1).I)
    rw [show [(V.rf t_impl_Node (l21 ((rd args 0).unbox))), (vi ((rd args 1).I))] = args from h] at q
    exact q
def spec_l4all_v2_c : Cfg := ⟨tab, sumsOf [(58, spec_l4add_v3_s)], fun _ => false, fun f => (look [(58, [none, none])] f).getD [], false, fun _ => false⟩
theorem spec_l4all_v2_c_ok : SumsOk Try.prog tab spec_l4all_v2_c.sums := sums_cons f58_en spec_l4add_v3_s_ok (sums_nil)
def spec_l4all_v2_l3_F (st : St) : Option (V × List V × List V × List V × List V × List V) := spec_l4all_v2_l3 (((((br st 3).length : Nat) : Int) - ((sv st 2).I)).toNat + 1) ((sv st 2).I) (bc st 0) (br st 1) (br st 2) (br st 3) (br st 4) (br st 5)
def spec_l4all_v2_l3_ps (r_ : V × List V × List V × List V × List V × List V) : List (Ex × St) := [((Ex.exit 0), (⟨[(3, (vs 1 t_impl_Msg))], [(0, some (Blk.box t_impl_Node (l25 r_.1))), (1, some (Blk.row t_impl_Msg false r_.2.1)), (2, some (Blk.row t_impl_Item true r_.2.2.1)), (3, some (Blk.row t_bool true r_.2.2.2.1)), (4, some (Blk.row t_int' true r_.2.2.2.2.1)), (5, some (Blk.row t_int' true r_.2.2.2.2.2))], 6, [0]⟩ : St))]
def spec_l4all_v2_l3_ss : SS := ⟨[(0, (.one (.bp 0 0))), (3, (.one (.sl 1 t_impl_Msg))), (4, (.one (.int .i64)))], [(.box t_impl_Node q26), (.row t_impl_Msg false), (.row t_impl_Item true), (.row t_bool true), (.row t_int' true), (.row t_int' true)], 6, [0]⟩
def spec_l4all_v2_l3_e : LE := ⟨3, spec_l4all_v2_l3_ss, fun st => Out.tst (spec_l4all_v2_l3_F st).isSome (brs ((fun r_ => 0) ((spec_l4all_v2_l3_F st).getD default)) 0 (spec_l4all_v2_l3_ps ((spec_l4all_v2_l3_F st).getD default)))⟩
def spec_l4all_v2_L : Loops := ⟨fun k => (look [(3, [0, 3, 4])] k).getD [], fun k => (look [(3, [⟨3, none, false⟩])] k).getD [], fun k => (look [(3, [3])] k).getD [], runL [spec_l4all_v2_l3_e]⟩
theorem spec_l4all_v2_l3_ok (k_ : Nat) : ∀ (i4 : Int) (b0 : V) (r1 : List V) (r2 : List V) (r3 : List V) (r4 : List V) (r5 : List V), Agr id (fun r_ => pick (0) 0 (spec_l4all_v2_l3_ps r_)) (spec_l4all_v2_l3 k_ i4 b0 r1 r2 r3 r4 r5) (rounds spec_l4all_v2_c spec_l4all_v2_L ((loopsIn (bodyOf Try.f107)).getD 0 .skip) k_ (⟨[(0, (V.bp 0 0)), (3, (vs 1 t_impl_Msg)), (4, (vi i4))], [(0, some (Blk.box t_impl_Node (l25 b0))), (1, some (Blk.row t_impl_Msg false r1)), (2, some (Blk.row t_impl_Item true r2)), (3, some (Blk.row t_bool true r3)), (4, some (Blk.row t_int' true r4)), (5, some (Blk.row t_int' true r5))], 6, [0]⟩ : St)) := by
  induction k_ with
  | zero => intros; exact A0
  | succ k_ ih =>
    intro i4 b0 r1 r2 r3 r4 r5
    have h : rounds spec_l4all_v2_c spec_l4all_v2_L ((loopsIn (bodyOf Try.f107)).getD 0 .skip) (k_ + 1) (⟨[(0, (V.bp 0 0)), (3, (vs 1 t_impl_Msg)), (4, (vi i4))], [(0, some (Blk.box t_impl_Node (l25 b0))), (1, some (Blk.row t_impl_Msg false r1)), (2, some (Blk.row t_impl_Item true r2)), (3, some (Blk.row t_bool true r3)), (4, some (Blk.row t_int' true r4)), (5, some (Blk.row t_int' true r5))], 6, [0]⟩ : St) = (bif (decide (i4 < (ln r3))) then bif (!(decide (i4 = (gi b0 0)))) then rcall (spec_l4add_v3 (V.agg [(vi (gi b0 0)), (vi (gi b0 1)), (vi (gi b0 2)), (V.inl t_impl_Item r2), (vi (gi b0 4)), (vi (gi b0 5)), (vi (gi b0 6)), (vi (gi b0 7)), (V.inl t_bool r3), (V.inl t_int' r4), (V.inl t_int' r5)]) i4) fun r50 => bif ((roomy (r1.length + 1) 88) && true) then rounds spec_l4all_v2_c spec_l4all_v2_L ((loopsIn (bodyOf Try.f107)).getD 0 .skip) k_ (⟨[(0, (V.bp 0 0)), (3, (vs 1 t_impl_Msg)), (4, (vi (w6 (i4 + 1))))], [(0, some (Blk.box t_impl_Node (l25 r50.2))), (1, some (Blk.row t_impl_Msg false (r1 ++ [(n_impl_Msg r50.1)]))), (2, some (Blk.row t_impl_Item true (gl r50.2 3))), (3, some (Blk.row t_bool true (gl r50.2 8))), (4, some (Blk.row t_int' true (gl r50.2 9))), (5, some (Blk.row t_int' true (gl r50.2 10)))], 6, [0]⟩ : St) else none else rounds spec_l4all_v2_c spec_l4all_v2_L ((loopsIn (bodyOf Try.f107)).getD 0 .skip) k_ (⟨[(0, (V.bp 0 0)), (3, (vs 1 t_impl_Msg)), (4, (vi (w6 (i4 + 1))))], [(0, some (Blk.box t_impl_Node (l25 b0))), (1, some (Blk.row t_impl_Msg false r1)), (2, some (Blk.row t_impl_Item true r2)), (3, some (Blk.row t_bool true r3)), (4, some (Blk.row t_int' true r4)), (5, some (Blk.row t_int' true r5))], 6, [0]⟩ : St) else some ((Ex.exit 0), (⟨[(3, (vs 1 t_impl_Msg))], [(0, some (Blk.box t_impl_Node (l25 b0))), (1, some (Blk.row t_impl_Msg false r1)), (2, some (Blk.row t_impl_Item true r2)), (3, some (Blk.row t_bool true r3)), (4, some (Blk.row t_int' true r4)), (5, some (Blk.row t_int' true r5))], 6, [0]⟩ : St))) := by kernel_rfl
    rw [h, spec_l4all_v2_l3]
    clear h
    repeat' (first | exact A0 | refine A1 ?_ ?_ | refine A2 fun _ => ?_ | refine A3 fun _ => ?_ | exact A4 (by kernel_rfl) | exact ih _ _ _ _ _ _ _)
theorem spec_l4all_v2_lo : LoopsOk spec_l4all_v2_c spec_l4all_v2_L (bodyOf Try.f107) := by
  refine GoodAll.ok (l := [spec_l4all_v2_l3_e]) ?_ rfl
  refine GoodAll.cons 0 (by kernel_rfl) ?_ ?_
  · exact good_of (key := 3) (ss := spec_l4all_v2_l3_ss) (F := spec_l4all_v2_l3_F) (ix := fun r_ => 0) (ps := spec_l4all_v2_l3_ps) (fun st => ((((br st 3).length : Nat) : Int) - ((sv st 2).I)).toNat + 1) fun st h => by
      have q := spec_l4all_v2_l3_ok (((((br st 3).length : Nat) : Int) - ((sv st 2).I)).toNat + 1) ((sv st 2).I) (bc st 0) (br st 1) (br st 2) (br st 3) (br st 4) (br st 5)
      rw [show (⟨[(0, (V.bp 0 0)), (3, (vs 1 t_impl_Msg)), (4, (vi ((sv st 2).I)))], [(0, some (Blk.box t_impl_Node (l25 (bc st 0)))), (1, some (Blk.row t_impl_Msg false (br st 1))), (2, some (Blk.row t_impl_Item true (br st 2))), (3, some (Blk.row t_bool true (br st 3))), (4, some (Blk.row t_int' true (br st 4))), (5, some (Blk.row t_int' true (br st 5)))], 6, [0]⟩ : St) = st from h] at q
      exact q
  exact GoodAll.nil
def spec_l4all_v2_sh (r_ : List V × V) : V × List V := ((V.rr t_impl_Msg false r_.1), [(V.rf t_impl_Node (l21 r_.2))])
theorem spec_l4all_v2_e (n : V) : Agr (wkF [[(.rr t_impl_Msg false)]] [q11]) spec_l4all_v2_sh (spec_l4all_v2 n) (evalFn spec_l4all_v2_c spec_l4all_v2_L Try.f107 [(V.rf t_impl_Node (l21 n))]) := by
  have h : evalFn spec_l4all_v2_c spec_l4all_v2_L Try.f107 [(V.rf t_impl_Node (l21 n))] = (rcall (spec_l4all_v2_l3 (((((gl n 8).length : Nat) : Int) - 0).toNat + 1) 0 (h27 n) [] (gl n 3) (gl n 8) (gl n 9) (gl n 10)) fun r51 => some ((V.rr t_impl_Msg false r51.2.1), [(V.rf t_impl_Node [(vi (gi r51.1 0)), (vi (gi r51.1 1)), (vi (gi r51.1 2)), (V.rr t_impl_Item true r51.2.2.1), (vi (gi r51.1 4)), (vi (gi r51.1 5)), (vi (gi r51.1 6)), (vi (gi r51.1 7)), (V.rr t_bool true r51.2.2.2.1), (V.rr t_int' true r51.2.2.2.2.1), (V.rr t_int' true r51.2.2.2.2.2)])])) := by kernel_rfl
  rw [h, spec_l4all_v2]
  clear h
  repeat' (first | exact A0 | refine A1 ?_ ?_ | refine A2 fun _ => ?_ | refine A3 fun _ => ?_ | exact A4 (by kernel_rfl))
def spec_l4all_v2_A : List S2 := [(.rf t_impl_Node q24)]
def spec_l4all_v2_F (args : List V) : Option (List V × V) := spec_l4all_v2 ((rd args 0).unbox)
def spec_l4all_v2_s (args : List V) : Option (Bool × (V × List V)) := bif argsOk spec_l4all_v2_A args then some ((spec_l4all_v2_F args).isSome, spec_l4all_v2_sh ((spec_l4all_v2_F args).getD default)) else none
theorem spec_l4all_v2_s_ok : ∀ args r, spec_l4all_v2_s args = some (true, r) → SumOk Try.prog tab 107 args r :=
  Base.sum (cfg := spec_l4all_v2_c) (F := spec_l4all_v2_F) (shr := spec_l4all_v2_sh) base spec_l4all_v2_c_ok Try.func107 (by kernel_rfl) spec_l4all_v2_lo spec_l4all_v2_A (by kernel_rfl) [[(.rr t_impl_Msg false)]] [q11] (by kernel_rfl) fun args h => by
    have q := spec_l4all_v2_e ((rd args 0).unbox)
    rw [show [(V.rf t_impl_Node (l21 ((rd args 0).unbox)))] = args from h] at q
    exact q
def spec_l4follow_c : Cfg := ⟨tab, sumsOf [], fun _ => false, fun f => (look [] f).getD [], false, fun _ => false⟩
theorem spec_l4follow_c_ok : SumsOk Try.prog tab spec_l4follow_c.sums := sums_nil
def spec_l4follow_l6_F (st : St) : Option (V × List V × List V × List V × List V) := spec_l4follow_l6 (((((br st 2).length : Nat) : Int) - ((sv st 1).I)).toNat + 1) ((sv st 1).I) (bc st 0) (br st 1) (br st 2) (br st 3) (br st 4)
def spec_l4follow_l6_ps (r_ : V × List V × List V × List V × List V) : List (Ex × St) := [((Ex.exit 0), (⟨[], [(0, some (Blk.box t_impl_Node (l28 r_.1))), (1, some (Blk.row t_impl_Item true r_.2.1)), (2, some (Blk.row t_bool true r_.2.2.1)), (3, some (Blk.row t_int' true r_.2.2.2.1)), (4, some (Blk.row t_int' true r_.2.2.2.2))], 5, [0]⟩ : St))]
def spec_l4follow_l6_ss : SS := ⟨[(0, (.one (.bp 0 0))), (4, (.one (.int .i64)))], [(.box t_impl_Node q29), (.row t_impl_Item true), (.row t_bool true), (.row t_int' true), (.row t_int' true)], 5, [0]⟩
def spec_l4follow_l6_e : LE := ⟨6, spec_l4follow_l6_ss, fun st => Out.tst (spec_l4follow_l6_F st).isSome (brs ((fun r_ => 0) ((spec_l4follow_l6_F st).getD default)) 0 (spec_l4follow_l6_ps ((spec_l4follow_l6_F st).getD default)))⟩
def spec_l4follow_L : Loops := ⟨fun k => (look [(6, [0, 4])] k).getD [], fun k => (look [] k).getD [], fun k => (look [(6, [])] k).getD [], runL [spec_l4follow_l6_e]⟩
theorem spec_l4follow_l6_ok (k_ : Nat) : ∀ (i4 : Int) (b0 : V) (r1 : List V) (r2 : List V) (r3 : List V) (r4 : List V), Agr id (fun r_ => pick (0) 0 (spec_l4follow_l6_ps r_)) (spec_l4follow_l6 k_ i4 b0 r1 r2 r3 r4) (rounds spec_l4follow_c spec_l4follow_L ((loopsIn (bodyOf Try.f117)).getD 0 .skip) k_ (⟨[(0, (V.bp 0 0)), (4, (vi i4))], [(0, some (Blk.box t_impl_Node (l28 b0))), (1, some (Blk.row t_impl_Item true r1)), (2, some (Blk.row t_bool true r2)), (3, some (Blk.row t_int' true r3)), (4, some (Blk.row t_int' true r4))], 5, [0]⟩ : St)) := by
  induction k_ with
  | zero => intros; exact A0
  | succ k_ ih =>
    intro i4 b0 r1 r2 r3 r4
    have h : rounds spec_l4follow_c spec_l4follow_L ((loopsIn (bodyOf Try.f117)).getD 0 .skip) (k_ + 1) (⟨[(0, (V.bp 0 0)), (4, (vi i4))], [(0, some (Blk.box t_impl_Node (l28 b0))), (1, some (Blk.row t_impl_Item true r1)), (2, some (Blk.row t_bool true r2)), (3, some (Blk.row t_int' true r3)), (4, some (Blk.row t_int' true r4))], 5, [0]⟩ : St) = (bif (decide (i4 < (ln r2))) then bif (idxOk i4 r2.length) then bif (idxOk i4 r3.length) then bif (idxOk i4 r4.length) then rounds spec_l4follow_c spec_l4follow_L ((loopsIn (bodyOf Try.f117)).getD 0 .skip) k_ (⟨[(0, (V.bp 0 0)), (4, (vi (w6 (i4 + 1))))], [(0, some (Blk.box t_impl_Node (l28 b0))), (1, some (Blk.row t_impl_Item true r1)), (2, some (Blk.row t_bool true (r2.set (0 + i4.toNat) (V.bool false)))), (3, some (Blk.row t_int' true (r3.set (0 + i4.toNat) (vi 0)))), (4, some (Blk.row t_int' true (r4.set (0 + i4.toNat) (vi 0))))], 5, [0]⟩ : St) else none else none else none else some ((Ex.exit 0), (⟨[], [(0, some (Blk.box t_impl_Node (l28 b0))), (1, some (Blk.row t_impl_Item true r1)), (2, some (Blk.row t_bool true r2)), (3, some (Blk.row t_int' true r3)), (4, some (Blk.row t_int' true r4))], 5, [0]⟩ : St))) := by kernel_rfl
    rw [h, spec_l4follow_l6]
    clear h
    repeat' (first | exact A0 | refine A1 ?_ ?_ | refine A2 fun _ => ?_ | refine A3 fun _ => ?_ | exact A4 (by kernel_rfl) | exact ih _ _ _ _ _ _)
theorem spec_l4follow_lo : LoopsOk spec_l4follow_c spec_l4follow_L (bodyOf Try.f117) := by
  refine GoodAll.ok (l := [spec_l4follow_l6_e]) ?_ rfl
  refine GoodAll.cons 0 (by kernel_rfl) ?_ ?_
  · exact good_of (key := 6) (ss := spec_l4follow_l6_ss) (F := spec_l4follow_l6_F) (ix := fun r_ => 0) (ps := spec_l4follow_l6_ps) (fun st => ((((br st 2).length : Nat) : Int) - ((sv st 1).I)).toNat + 1) fun st h => by
      have q := spec_l4follow_l6_ok (((((br st 2).length : Nat) : Int) - ((sv st 1).I)).toNat + 1) ((sv st 1).I) (bc st 0) (br st 1) (br st 2) (br st 3) (br st 4)
      rw [show (⟨[(0, (V.bp 0 0)), (4, (vi ((sv st 1).I)))], [(0, some (Blk.box t_impl_Node (l28 (bc st 0)))), (1, some (Blk.row t_impl_Item true (br st 1))), (2, some (Blk.row t_bool true (br st 2))), (3, some (Blk.row t_int' true (br st 3))), (4, some (Blk.row t_int' true (br st 4)))], 5, [0]⟩ : St) = st from h] at q
      exact q
  exact GoodAll.nil
def spec_l4follow_sh (r_ : V) : V × List V := ((V.tup []), [(V.rf t_impl_Node (l21 r_))])
theorem spec_l4follow_e (n : V) (term_ : Int) : Agr (wkF [] [q11]) spec_l4follow_sh (spec_l4follow n term_) (evalFn spec_l4follow_c spec_l4follow_L Try.f117 [(V.rf t_impl_Node (l21 n)), (vi term_)]) := by
  have h : evalFn spec_l4follow_c spec_l4follow_L Try.f117 [(V.rf t_impl_Node (l21 n)), (vi term_)] = (bif (decide ((gi n 1) < term_)) then rcall (spec_l4follow_l6 (((((gl n 8).length : Nat) : Int) - 0).toNat + 1) 0 (V.agg [(vi (gi n 0)), (vi term_), (vi (-1)), (vs 1 t_impl_Item), (vi (gi n 4)), (vi 0), (vi (-1)), (vi (gi n 7)), (vs 2 t_bool), (vs 3 t_int'), (vs 4 t_int')]) (gl n 3) (gl n 8) (gl n 9) (gl n 10)) fun r53 => some ((V.tup []), [(V.rf t_impl_Node [(vi (gi r53.1 0)), (vi (gi r53.1 1)), (vi (gi r53.1 2)), (V.rr t_impl_Item true r53.2.1), (vi (gi r53.1 4)), (vi (gi r53.1 5)), (vi (gi r53.1 6)), (vi (gi r53.1 7)), (V.rr t_bool true r53.2.2.1), (V.rr t_int' true r53.2.2.2.1), (V.rr t_int' true r53.2.2.2.2)])]) else rcall (spec_l4follow_l6 (((((gl n 8).length : Nat) : Int) - 0).toNat + 1) 0 (h30 n) (gl n 3) (gl n 8) (gl n 9) (gl n 10)) fun r54 => some ((V.tup []), [(V.rf t_impl_Node [(vi (gi r54.1 0)), (vi (gi r54.1 1)), (vi (gi r54.1 2)), (V.rr t_impl_Item true r54.2.1), (vi (gi r54.1 4)), (vi (gi r54.1 5)), (vi (gi r54.1 6)), (vi (gi r54.1 7)), (V.rr t_bool true r54.2.2.1), (V.rr t_int' true r54.2.2.2.1), (V.rr t_int' true r54.2.2.2.2)])])) := by kernel_rfl
  rw [h, spec_l4follow]
  clear h
  repeat' (first | exact A0 | refine A1 ?_ ?_ | refine A2 fun _ => ?_ | refine A3 fun _ => ?_ | exact A4 (by kernel_rfl))
def spec_l4follow_A : List S2 := [(.rf t_impl_Node q24), (.one (.int .i64))]
def spec_l4follow_F (args : List V) : Option (V) := spec_l4follow ((rd args 0).unbox) ((rd args 1).I)
def spec_l4follow_s (args : List V) : Option (Bool × (V × List V)) := bif argsOk spec_l4follow_A args then some ((spec_l4follow_F args).isSome, spec_l4follow_sh ((spec_l4follow_F args).getD default)) else none
theorem spec_l4follow_s_ok : ∀ args r, spec_l4follow_s args = some (true, r) → SumOk Try.prog tab 117 args r :=
  Base.sum (cfg := spec_l4follow_c) (F := spec_l4follow_F) (shr := spec_l4follow_sh) base spec_l4follow_c_ok Try.func117 (by kernel_rfl) spec_l4follow_lo spec_l4follow_A (by kernel_rfl) [] [q11] (by kernel_rfl) fun args h => by
    have q := spec_l4follow_e ((rd args 0).unbox) ((rd args 1).I)
    rw [show [(V.rf t_impl_Node (l21 ((rd args 0).unbox))), (vi ((rd args 1).I))] = args from h] at q
    exact q
def spec_l4most_c : Cfg := ⟨tab, sumsOf [], fun _ => false, fun f => (look [] f).getD [], false, fun _ => false⟩
theorem spec_l4most_c_ok : SumsOk Try.prog tab spec_l4most_c.sums := sums_nil
abbrev spec_l4most_L : Loops := noL
def spec_l4most_sh (r_ : Bool) : V × List V := ((V.bool r_), [])
theorem spec_l4most_e (k : Int) (servers : Int) : Tot (wkF [[.dead]] []) spec_l4most_sh (spec_l4most k servers) (evalFn spec_l4most_c spec_l4most_L Try.f136 [(vi k), (vi servers)]) := by
  have h : evalFn spec_l4most_c spec_l4most_L Try.f136 [(vi k), (vi servers)] = (some ((V.bool (decide (servers < (w6 (2 * k))))), [])) := by kernel_rfl
  rw [h, spec_l4most]
  clear h
  repeat' (first | refine A5 ?_ ?_ | refine A6 fun _ => ?_ | exact A7 (by kernel_rfl))
def spec_l4most_A : List S2 := [(.one (.int .i64)), (.one (.int .i64))]
def spec_l4most_F (args : List V) : Bool := spec_l4most ((rd args 0).I) ((rd args 1).I)
def spec_l4most_s (args : List V) : Option (Bool × (V × List V)) := bif argsOk spec_l4most_A args then some (true, spec_l4most_sh (spec_l4most_F args)) else none
theorem spec_l4most_s_ok : ∀ args r, spec_l4most_s args = some (true, r) → SumOk Try.prog tab 136 args r :=
  Base.sumT (cfg := spec_l4most_c) (F := spec_l4most_F) (shr := spec_l4most_sh) base spec_l4most_c_ok Try.func136 (by kernel_rfl) noLo spec_l4most_A (by kernel_rfl) [[.dead]] [] (by kernel_rfl) fun args h => by
    have q := spec_l4most_e ((rd args 0).I) ((rd args 1).I)
    rw [show [(vi ((rd args 0).I)), (vi ((rd args 1).I))] = args from h] at q
    exact q
def spec_l4commit_v1_c : Cfg := ⟨tab, sumsOf [(136, spec_l4most_s), (81, spec_l4termAt_s)], fun _ => false, fun f => (look [(136, [none, none]), (81, [none, none])] f).getD [], false, fun f => Nat.beq f 81⟩
theorem spec_l4commit_v1_c_ok : SumsOk Try.prog tab spec_l4commit_v1_c.sums := sums_cons f136_en spec_l4most_s_ok (sums_cons f81_en spec_l4termAt_s_ok (sums_nil))
def spec_l4commit_v1_l7_F (st : St) : Option (Int × Int × V × List V × List V × List V × List V) := spec_l4commit_v1_l7 (((((br st 4).length : Nat) : Int) - ((sv st 3).I)).toNat + 1) ((sv st 1).I) ((sv st 2).I) ((sv st 3).I) (bc st 0) (br st 1) (br st 2) (br st 3) (br st 4)
def spec_l4commit_v1_l7_ps (r_ : Int × Int × V × List V × List V × List V × List V) : List (Ex × St) := [((Ex.exit 2), (⟨[(0, (V.bp 0 0)), (2, (vi r_.1)), (3, (vi r_.2.1))], [(0, some (Blk.box t_impl_Node (l28 r_.2.2.1))), (1, some (Blk.row t_impl_Item true r_.2.2.2.1)), (2, some (Blk.row t_bool true r_.2.2.2.2.1)), (3, some (Blk.row t_int' true r_.2.2.2.2.2.1)), (4, some (Blk.row t_int' true r_.2.2.2.2.2.2))], 5, [0]⟩ : St))]
def spec_l4commit_v1_l7_ss : SS := ⟨[(0, (.one (.bp 0 0))), (2, (.one (.int .i64))), (3, (.one (.int .i64))), (4, (.one (.int .i64)))], [(.box t_impl_Node q29), (.row t_impl_Item true), (.row t_bool true), (.row t_int' true), (.row t_int' true)], 5, [0]⟩
def spec_l4commit_v1_l7_e : LE := ⟨7, spec_l4commit_v1_l7_ss, fun st => Out.tst (spec_l4commit_v1_l7_F st).isSome (brs ((fun r_ => 0) ((spec_l4commit_v1_l7_F st).getD default)) 0 (spec_l4commit_v1_l7_ps ((spec_l4commit_v1_l7_F st).getD default)))⟩
def spec_l4commit_v1_l3_F (st : St) : Option (Nat × V × List V × List V × List V × List V) := spec_l4commit_v1_l3 ((((sv st 1).I) - (gi (bc st 0) 4)).toNat + 1) ((sv st 1).I) (bc st 0) (br st 1) (br st 2) (br st 3) (br st 4)
def spec_l4commit_v1_l3_ps (r_ : Nat × V × List V × List V × List V × List V) : List (Ex × St) := [(Ex.ret, (⟨[], [(0, some (Blk.box t_impl_Node (l28 r_.2.1))), (1, some (Blk.row t_impl_Item true r_.2.2.1)), (2, some (Blk.row t_bool true r_.2.2.2.1)), (3, some (Blk.row t_int' true r_.2.2.2.2.1)), (4, some (Blk.row t_int' true r_.2.2.2.2.2))], 5, [0]⟩ : St)), ((Ex.exit 0), (⟨[], [(0, some (Blk.box t_impl_Node (l28 r_.2.1))), (1, some (Blk.row t_impl_Item true r_.2.2.1)), (2, some (Blk.row t_bool true r_.2.2.2.1)), (3, some (Blk.row t_int' true r_.2.2.2.2.1)), (4, some (Blk.row t_int' true r_.2.2.2.2.2))], 5, [0]⟩ : St))]
def spec_l4commit_v1_l3_ss : SS := ⟨[(0, (.one (.bp 0 0))), (2, (.one (.int .i64)))], [(.box t_impl_Node q29), (.row t_impl_Item true), (.row t_bool true), (.row t_int' true), (.row t_int' true)], 5, [0]⟩
def spec_l4commit_v1_l3_e : LE := ⟨3, spec_l4commit_v1_l3_ss, fun st => Out.tst (spec_l4commit_v1_l3_F st).isSome (brs ((fun r_ => r_.1) ((spec_l4commit_v1_l3_F st).getD default)) 0 (spec_l4commit_v1_l3_ps ((spec_l4commit_v1_l3_F st).getD default)))⟩
def spec_l4commit_v1_L : Loops := ⟨fun k => (look [(3, [0, 2]), (7, [0, 2, 3, 4])] k).getD [], fun k => (look [] k).getD [], fun k => (look [(3, []), (7, [0, 2, 3])] k).getD [], runL [spec_l4commit_v1_l7_e, spec_l4commit_v1_l3_e]⟩
theorem spec_l4commit_v1_l7_ok (k_ : Nat) : ∀ (p2 : Int) (k3 : Int) (i4 : Int) (b0 : V) (r1 : List V) (r2 : List V) (r3 : List V) (r4 : List V), Agr id (fun r_ => pick (0) 0 (spec_l4commit_v1_l7_ps r_)) (spec_l4commit_v1_l7 k_ p2 k3 i4 b0 r1 r2 r3 r4) (rounds spec_l4commit_v1_c spec_l4commit_v1_L ((loopsIn (bodyOf Try.f106)).getD 1 .skip) k_ (⟨[(0, (V.bp 0 0)), (2, (vi p2)), (3, (vi k3)), (4, (vi i4))], [(0, some (Blk.box t_impl_Node (l28 b0))), (1, some (Blk.row t_impl_Item true r1)), (2, some (Blk.row t_bool true r2)), (3, some (Blk.row t_int' true r3)), (4, some (Blk.row t_int' true r4))], 5, [0]⟩ : St)) := by
  induction k_ with
  | zero => intros; exact A0
  | succ k_ ih =>
    intro p2 k3 i4 b0 r1 r2 r3 r4
    have h : rounds spec_l4commit_v1_c spec_l4commit_v1_L ((loopsIn (bodyOf Try.f106)).getD 1 .skip) (k_ + 1) (⟨[(0, (V.bp 0 0)), (2, (vi p2)), (3, (vi k3)), (4, (vi i4))], [(0, some (Blk.box t_impl_Node (l28 b0))), (1, some (Blk.row t_impl_Item true r1)), (2, some (Blk.row t_bool true r2)), (3, some (Blk.row t_int' true r3)), (4, some (Blk.row t_int' true r4))], 5, [0]⟩ : St) = (bif (decide (i4 < (ln r4))) then bif (idxOk i4 r4.length) then bif (decide (p2 ≤ (gi (rd r4 (0 + i4.toNat)) 0))) then rounds spec_l4commit_v1_c spec_l4commit_v1_L ((loopsIn (bodyOf Try.f106)).getD 1 .skip) k_ (⟨[(0, (V.bp 0 0)), (2, (vi p2)), (3, (vi (w6 (k3 + 1)))), (4, (vi (w6 (i4 + 1))))], [(0, some (Blk.box t_impl_Node (l28 b0))), (1, some (Blk.row t_impl_Item true r1)), (2, some (Blk.row t_bool true r2)), (3, some (Blk.row t_int' true r3)), (4, some (Blk.row t_int' true r4))], 5, [0]⟩ : St) else rounds spec_l4commit_v1_c spec_l4commit_v1_L ((loopsIn (bodyOf Try.f106)).getD 1 .skip) k_ (⟨[(0, (V.bp 0 0)), (2, (vi p2)), (3, (vi k3)), (4, (vi (w6 (i4 + 1))))], [(0, some (Blk.box t_impl_Node (l28 b0))), (1, some (Blk.row t_impl_Item true r1)), (2, some (Blk.row t_bool true r2)), (3, some (Blk.row t_int' true r3)), (4, some (Blk.row t_int' true r4))], 5, [0]⟩ : St) else none else some ((Ex.exit 2), (⟨[(0, (V.bp 0 0)), (2, (vi p2)), (3, (vi k3))], [(0, some (Blk.box t_impl_Node (l28 b0))), (1, some (Blk.row t_impl_Item true r1)), (2, some (Blk.row t_bool true r2)), (3, some (Blk.row t_int' true r3)), (4, some (Blk.row t_int' true r4))], 5, [0]⟩ : St))) := by kernel_rfl
    rw [h, spec_l4commit_v1_l7]
    clear h
    repeat' (first | exact A0 | refine A1 ?_ ?_ | refine A2 fun _ => ?_ | refine A3 fun _ => ?_ | exact A4 (by kernel_rfl) | exact ih _ _ _ _ _ _ _ _)
theorem spec_l4commit_v1_l3_ok (k_ : Nat) : ∀ (p2 : Int) (b0 : V) (r1 : List V) (r2 : List V) (r3 : List V) (r4 : List V), Agr id (fun r_ => pick (r_.1) 0 (spec_l4commit_v1_l3_ps r_)) (spec_l4commit_v1_l3 k_ p2 b0 r1 r2 r3 r4) (rounds spec_l4commit_v1_c spec_l4commit_v1_L ((loopsIn (bodyOf Try.f106)).getD 0 .skip) k_ (⟨[(0, (V.bp 0 0)), (2, (vi p2))], [(0, some (Blk.box t_impl_Node (l28 b0))), (1, some (Blk.row t_impl_Item true r1)), (2, some (Blk.row t_bool true r2)), (3, some (Blk.row t_int' true r3)), (4, some (Blk.row t_int' true r4))], 5, [0]⟩ : St)) := by
  induction k_ with
  | zero => intros; exact A0
  | succ k_ ih =>
    intro p2 b0 r1 r2 r3 r4
    have h : rounds spec_l4commit_v1_c spec_l4commit_v1_L ((loopsIn (bodyOf Try.f106)).getD 0 .skip) (k_ + 1) (⟨[(0, (V.bp 0 0)), (2, (vi p2))], [(0, some (Blk.box t_impl_Node (l28 b0))), (1, some (Blk.row t_impl_Item true r1)), (2, some (Blk.row t_bool true r2)), (3, some (Blk.row t_int' true r3)), (4, some (Blk.row t_int' true r4))], 5, [0]⟩ : St) = (bif (decide ((gi b0 4) < p2)) then rcall (spec_l4commit_v1_l7 (((ln r4) - 0).toNat + 1) p2 0 0 (h31 b0) r1 r2 r3 r4) fun r58 => bif spec_l4most r58.2.1 (ln r58.2.2.2.2.2.2) then rcall (spec_l4termAt (V.agg [(vi (gi r58.2.2.1 0)), (vi (gi r58.2.2.1 1)), (vi (gi r58.2.2.1 2)), (V.inl t_impl_Item r58.2.2.2.1), (vi (gi r58.2.2.1 4)), (vi (gi r58.2.2.1 5)), (vi (gi r58.2.2.1 6)), (vi (gi r58.2.2.1 7)), (V.inl t_bool r58.2.2.2.2.1), (V.inl t_int' r58.2.2.2.2.2.1), (V.inl t_int' r58.2.2.2.2.2.2)]) r58.1) fun r59 => bif (decide (r59 = (gi r58.2.2.1 1))) then some (Ex.ret, (⟨[], [(0, some (Blk.box t_impl_Node [(vi (gi r58.2.2.1 0)), (vi (gi r58.2.2.1 1)), (vi (gi r58.2.2.1 2)), (vs 1 t_impl_Item), (vi r58.1), (vi (gi r58.2.2.1 5)), (vi (gi r58.2.2.1 6)), (vi (gi r58.2.2.1 7)), (vs 2 t_bool), (vs 3 t_int'), (vs 4 t_int')])), (1, some (Blk.row t_impl_Item true r58.2.2.2.1)), (2, some (Blk.row t_bool true r58.2.2.2.2.1)), (3, some (Blk.row t_int' true r58.2.2.2.2.2.1)), (4, some (Blk.row t_int' true r58.2.2.2.2.2.2))], 5, [0]⟩ : St)) else rounds spec_l4commit_v1_c spec_l4commit_v1_L ((loopsIn (bodyOf Try.f106)).getD 0 .skip) k_ (⟨[(0, (V.bp 0 0)), (2, (vi (w6 (r58.1 - 1))))], [(0, some (Blk.box t_impl_Node (l28 r58.2.2.1))), (1, some (Blk.row t_impl_Item true r58.2.2.2.1)), (2, some (Blk.row t_bool true r58.2.2.2.2.1)), (3, some (Blk.row t_int' true r58.2.2.2.2.2.1)), (4, some (Blk.row t_int' true r58.2.2.2.2.2.2))], 5, [0]⟩ : St) else rounds spec_l4commit_v1_c spec_l4commit_v1_L ((loopsIn (bodyOf Try.f106)).getD 0 .skip) k_ (⟨[(0, (V.bp 0 0)), (2, (vi (w6 (r58.1 - 1))))], [(0, some (Blk.box t_impl_Node (l28 r58.2.2.1))), (1, some (Blk.row t_impl_Item true r58.2.2.2.1)), (2, some (Blk.row t_bool true r58.2.2.2.2.1)), (3, some (Blk.row t_int' true r58.2.2.2.2.2.1)), (4, some (Blk.row t_int' true r58.2.2.2.2.2.2))], 5, [0]⟩ : St) else some ((Ex.exit 0), (⟨[], [(0, some (Blk.box t_impl_Node (l28 b0))), (1, some (Blk.row t_impl_Item true r1)), (2, some (Blk.row t_bool true r2)), (3, some (Blk.row t_int' true r3)), (4, some (Blk.row t_int' true r4))], 5, [0]⟩ : St))) := by kernel_rfl
    rw [h, spec_l4commit_v1_l3]
    clear h
    repeat' (first | exact A0 | refine A1 ?_ ?_ | refine A2 fun _ => ?_ | refine A3 fun _ => ?_ | exact A4 (by kernel_rfl) | exact ih _ _ _ _ _ _)
theorem spec_l4commit_v1_lo : LoopsOk spec_l4commit_v1_c spec_l4commit_v1_L (bodyOf Try.f106) := by
  refine GoodAll.ok (l := [spec_l4commit_v1_l7_e, spec_l4commit_v1_l3_e]) ?_ rfl
  refine GoodAll.cons 1 (by kernel_rfl) ?_ ?_
  · exact good_of (key := 7) (ss := spec_l4commit_v1_l7_ss) (F := spec_l4commit_v1_l7_F) (ix := fun r_ => 0) (ps := spec_l4commit_v1_l7_ps) (fun st => ((((br st 4).length : Nat) : Int) - ((sv st 3).I)).toNat + 1) fun st h => by
      have q := spec_l4commit_v1_l7_ok (((((br st 4).length : Nat) : Int) - ((sv st 3).I)).toNat + 1) ((sv st 1).I) ((sv st 2).I) ((sv st 3).I) (bc st 0) (br st 1) (br st 2) (br st 3) (br st 4)
      rw [show (⟨[(0, (V.bp 0 0)), (2, (vi ((sv st 1).I))), (3, (vi ((sv st 2).I))), (4, (vi ((sv st 3).I)))], [(0, some (Blk.box t_impl_Node (l28 (bc st 0)))), (1, some (Blk.row t_impl_Item true (br st 1))), (2, some (Blk.row t_bool true (br st 2))), (3, some (Blk.row t_int' true (br st 3))), (4, some (Blk.row t_int' true (br st 4)))], 5, [0]⟩ : St) = st from h] at q
      exact q
  refine GoodAll.cons 0 (by kernel_rfl) ?_ ?_
  · exact good_of (key := 3) (ss := spec_l4commit_v1_l3_ss) (F := spec_l4commit_v1_l3_F) (ix := fun r_ => r_.1) (ps := spec_l4commit_v1_l3_ps) (fun st => (((sv st 1).I) - (gi (bc st 0) 4)).toNat + 1) fun st h => by
      have q := spec_l4commit_v1_l3_ok ((((sv st 1).I) - (gi (bc st 0) 4)).toNat + 1) ((sv st 1).I) (bc st 0) (br st 1) (br st 2) (br st 3) (br st 4)
      rw [show (⟨[(0, (V.bp 0 0)), (2, (vi ((sv st 1).I)))], [(0, some (Blk.box t_impl_Node (l28 (bc st 0)))), (1, some (Blk.row t_impl_Item true (br st 1))), (2, some (Blk.row t_bool true (br st 2))), (3, some (Blk.row t_int' true (br st 3))), (4, some (Blk.row t_int' true (br st 4)))], 5, [0]⟩ : St) = st from h] at q
      exact q
  exact GoodAll.nil
def spec_l4commit_v1_sh (r_ : V) : V × List V := ((V.tup []), [(V.rf t_impl_Node (l21 r_))])
theorem spec_l4commit_v1_e (n : V) : Agr (wkF [] [q11]) spec_l4commit_v1_sh (spec_l4commit_v1 n) (evalFn spec_l4commit_v1_c spec_l4commit_v1_L Try.f106 [(V.rf t_impl_Node (l21 n))]) := by
  have h : evalFn spec_l4commit_v1_c spec_l4commit_v1_L Try.f106 [(V.rf t_impl_Node (l21 n))] = (bif (idxOk (gi n 0) ((gl n 10).length)) then bif (idxOk (gi n 0) ((gl n 9).length)) then rcall (spec_l4commit_v1_l3 (((((gl n 3).length : Nat) : Int) - (gi (h31 n) 4)).toNat + 1) (((gl n 3).length : Nat) : Int) (h31 n) (gl n 3) (gl n 8) ((gl n 9).set (0 + ((gi n 0).toNat)) (vi (w6 ((((gl n 3).length : Nat) : Int) + 1)))) ((gl n 10).set (0 + ((gi n 0).toNat)) (vi (((gl n 3).length : Nat) : Int)))) fun r60 => bif (Nat.beq r60.1 0) then some ((V.tup []), [(V.rf t_impl_Node [(vi (gi r60.2.1 0)), (vi (gi r60.2.1 1)), (vi (gi r60.2.1 2)), (V.rr t_impl_Item true r60.2.2.1), (vi (gi r60.2.1 4)), (vi (gi r60.2.1 5)), (vi (gi r60.2.1 6)), (vi (gi r60.2.1 7)), (V.rr t_bool true r60.2.2.2.1), (V.rr t_int' true r60.2.2.2.2.1), (V.rr t_int' true r60.2.2.2.2.2)])]) else some ((V.tup []), [(V.rf t_impl_Node [(vi (gi r60.2.1 0)), (vi (gi r60.2.1 1)), (vi (gi r60.2.1 2)), (V.rr t_impl_Item true r60.2.2.1), (vi (gi r60.2.1 4)), (vi (gi r60.2.1 5)), (vi (gi r60.2.1 6)), (vi (gi r60.2.1 7)), (V.rr t_bool true r60.2.2.2.1), (V.rr t_int' true r60.2.2.2.2.1), (V.rr t_int' true r60.2.2.2.2.2)])]) else none else none) := by kernel_rfl
  rw [h, spec_l4commit_v1]
  clear h
  repeat' (first | exact A0 | refine A1 ?_ ?_ | refine A2 fun _ => ?_ | refine A3 fun _ => ?_ | exact A4 (by kernel_rfl))
def spec_l4commit_v1_A : List S2 := [(.rf t_impl_Node q24)]
def spec_l4commit_v1_F (args : List V) : Option (V) := spec_l4commit_v1 ((rd args 0).unbox)
def spec_l4commit_v1_s (args : List V) : Option (Bool × (V × List V)) := bif argsOk spec_l4commit_v1_A args then some ((spec_l4commit_v1_F args).isSome, spec_l4commit_v1_sh ((spec_l4commit_v1_F args).getD default)) else none
theorem spec_l4commit_v1_s_ok : ∀ args r, spec_l4commit_v1_s args = some (true, r) → SumOk Try.prog tab 106 args r :=
  Base.sum (cfg := spec_l4commit_v1_c) (F := spec_l4commit_v1_F) (shr := spec_l4commit_v1_sh) base spec_l4commit_v1_c_ok Try.func106 (by kernel_rfl) spec_l4commit_v1_lo spec_l4commit_v1_A (by kernel_rfl) [] [q11] (by kernel_rfl) fun args h => by
    have q := spec_l4commit_v1_e ((rd args 0).unbox)
    rw [show [(V.rf t_impl_Node (l21 ((rd args 0).unbox)))] = args from h] at q
    exact q
end Go.Eng.R
open Go Go.Eng Go.Proofs
namespace Go.Eng.R
def spec_l4lead_c : Cfg := ⟨tab, sumsOf [(136, spec_l4most_s), (106, spec_l4commit_v1_s), (107, spec_l4all_v2_s)], fun _ => false, fun f => (look [(136, [none, none]), (106, [none]), (107, [none])] f).getD [], false, fun _ => false⟩
theorem spec_l4lead_c_ok : SumsOk Try.prog tab spec_l4lead_c.sums := sums_cons f136_en spec_l4most_s_ok (sums_cons f106_en spec_l4commit_v1_s_ok (sums_cons f107_en spec_l4all_v2_s_ok (sums_nil)))
def spec_l4lead_l3_F (st : St) : Option (Int × V × List V × List V × List V × List V) := spec_l4lead_l3 (((((br st 2).length : Nat) : Int) - ((sv st 2).I)).toNat + 1) ((sv st 1).I) ((sv st 2).I) (bc st 0) (br st 1) (br st 2) (br st 3) (br st 4)
def spec_l4lead_l3_ps (r_ : Int × V × List V × List V × List V × List V) : List (Ex × St) := [((Ex.exit 0), (⟨[(0, (V.bp 0 0)), (3, (vi r_.1))], [(0, some (Blk.box t_impl_Node (l28 r_.2.1))), (1, some (Blk.row t_impl_Item true r_.2.2.1)), (2, some (Blk.row t_bool true r_.2.2.2.1)), (3, some (Blk.row t_int' true r_.2.2.2.2.1)), (4, some (Blk.row t_int' true r_.2.2.2.2.2))], 5, [0]⟩ : St))]
def spec_l4lead_l3_ss : SS := ⟨[(0, (.one (.bp 0 0))), (3, (.one (.int .i64))), (4, (.one (.int .i64)))], [(.box t_impl_Node q29), (.row t_impl_Item true), (.row t_bool true), (.row t_int' true), (.row t_int' true)], 5, [0]⟩
def spec_l4lead_l3_e : LE := ⟨3, spec_l4lead_l3_ss, fun st => Out.tst (spec_l4lead_l3_F st).isSome (brs ((fun r_ => 0) ((spec_l4lead_l3_F st).getD default)) 0 (spec_l4lead_l3_ps ((spec_l4lead_l3_F st).getD default)))⟩
def spec_l4lead_l13_F (st : St) : Option (V × List V × List V × List V × List V) := spec_l4lead_l13 (((((br st 3).length : Nat) : Int) - ((sv st 1).I)).toNat + 1) ((sv st 1).I) (bc st 0) (br st 1) (br st 2) (br st 3) (br st 4)
def spec_l4lead_l13_ps (r_ : V × List V × List V × List V × List V) : List (Ex × St) := [((Ex.exit 2), (⟨[(0, (V.bp 0 0))], [(0, some (Blk.box t_impl_Node (l28 r_.1))), (1, some (Blk.row t_impl_Item true r_.2.1)), (2, some (Blk.row t_bool true r_.2.2.1)), (3, some (Blk.row t_int' true r_.2.2.2.1)), (4, some (Blk.row t_int' true r_.2.2.2.2))], 5, [0]⟩ : St))]
def spec_l4lead_l13_ss : SS := ⟨[(0, (.one (.bp 0 0))), (5, (.one (.int .i64)))], [(.box t_impl_Node q29), (.row t_impl_Item true), (.row t_bool true), (.row t_int' true), (.row t_int' true)], 5, [0]⟩
def spec_l4lead_l13_e : LE := ⟨13, spec_l4lead_l13_ss, fun st => Out.tst (spec_l4lead_l13_F st).isSome (brs ((fun r_ => 0) ((spec_l4lead_l13_F st).getD default)) 0 (spec_l4lead_l13_ps ((spec_l4lead_l13_F st).getD default)))⟩
def spec_l4lead_L : Loops := ⟨fun k => (look [(3, [0, 3, 4]), (13, [0, 5])] k).getD [], fun k => (look [] k).getD [], fun k => (look [(3, [0, 3]), (13, [0])] k).getD [], runL [spec_l4lead_l3_e, spec_l4lead_l13_e]⟩
theorem spec_l4lead_l3_ok (k_ : Nat) : ∀ (k3 : Int) (i4 : Int) (b0 : V) (r1 : List V) (r2 : List V) (r3 : List V) (r4 : List V), Agr id (fun r_ => pick (0) 0 (spec_l4lead_l3_ps r_)) (spec_l4lead_l3 k_ k3 i4 b0 r1 r2 r3 r4) (rounds spec_l4lead_c spec_l4lead_L ((loopsIn (bodyOf Try.f118)).getD 0 .skip) k_ (⟨[(0, (V.bp 0 0)), (3, (vi k3)), (4, (vi i4))], [(0, some (Blk.box t_impl_Node (l28 b0))), (1, some (Blk.row t_impl_Item true r1)), (2, some (Blk.row t_bool true r2)), (3, some (Blk.row t_int' true r3)), (4, some (Blk.row t_int' true r4))], 5, [0]⟩ : St)) := by
  induction k_ with
  | zero => intros; exact A0
  | succ k_ ih =>
    intro k3 i4 b0 r1 r2 r3 r4
    have h : rounds spec_l4lead_c spec_l4lead_L ((loopsIn (bodyOf Try.f118)).getD 0 .skip) (k_ + 1) (⟨[(0, (V.bp 0 0)), (3, (vi k3)), (4, (vi i4))], [(0, some (Blk.box t_impl_Node (l28 b0))), (1, some (Blk.row t_impl_Item true r1)), (2, some (Blk.row t_bool true r2)), (3, some (Blk.row t_int' true r3)), (4, some (Blk.row t_int' true r4))], 5, [0]⟩ : St) = (bif (decide (i4 < (ln r2))) then bif (idxOk i4 r2.length) then bif (gb (rd r2 (0 + i4.toNat)) 0) then rounds spec_l4lead_c spec_l4lead_L ((loopsIn (bodyOf Try.f118)).getD 0 .skip) k_ (⟨[(0, (V.bp 0 0)), (3, (vi (w6 (k3 + 1)))), (4, (vi (w6 (i4 + 1))))], [(0, some (Blk.box t_impl_Node (l28 b0))), (1, some (Blk.row t_impl_Item true r1)), (2, some (Blk.row t_bool true r2)), (3, some (Blk.row t_int' true r3)), (4, some (Blk.row t_int' true r4))], 5, [0]⟩ : St) else rounds spec_l4lead_c spec_l4lead_L ((loopsIn (bodyOf Try.f118)).getD 0 .skip) k_ (⟨[(0, (V.bp 0 0)), (3, (vi k3)), (4, (vi (w6 (i4 + 1))))], [(0, some (Blk.box t_impl_Node (l28 b0))), (1, some (Blk.row t_impl_Item true r1)), (2, some (Blk.row t_bool true r2)), (3, some (Blk.row t_int' true r3)), (4, some (Blk.row t_int' true r4))], 5, [0]⟩ : St) else none else some ((Ex.exit 0), (⟨[(0, (V.bp 0 0)), (3, (vi k3))], [(0, some (Blk.box t_impl_Node (l28 b0))), (1, some (Blk.row t_impl_Item true r1)), (2, some (Blk.row t_bool true r2)), (3, some (Blk.row t_int' true r3)), (4, some (Blk.row t_int' true r4))], 5, [0]⟩ : St))) := by kernel_rfl
    rw [h, spec_l4lead_l3]
    clear h
    repeat' (first | exact A0 | refine A1 ?_ ?_ | refine A2 fun _ => ?_ | refine A3 fun _ => ?_ | exact A4 (by kernel_rfl) | exact ih _ _ _ _ _ _ _)
theorem spec_l4lead_l13_ok (k_ : Nat) : ∀ (i5 : Int) (b0 : V) (r1 : List V) (r2 : List V) (r3 : List V) (r4 : List V), Agr id (fun r_ => pick (0) 0 (spec_l4lead_l13_ps r_)) (spec_l4lead_l13 k_ i5 b0 r1 r2 r3 r4) (rounds spec_l4lead_c spec_l4lead_L ((loopsIn (bodyOf Try.f118)).getD 1 .skip) k_ (⟨[(0, (V.bp 0 0)), (5, (vi i5))], [(0, some (Blk.box t_impl_Node (l28 b0))), (1, some (Blk.row t_impl_Item true r1)), (2, some (Blk.row t_bool true r2)), (3, some (Blk.row t_int' true r3)), (4, some (Blk.row t_int' true r4))], 5, [0]⟩ : St)) := by
  induction k_ with
  | zero => intros; exact A0
  | succ k_ ih =>
    intro i5 b0 r1 r2 r3 r4
    have h : rounds spec_l4lead_c spec_l4lead_L ((loopsIn (bodyOf Try.f118)).getD 1 .skip) (k_ + 1) (⟨[(0, (V.bp 0 0)), (5, (vi i5))], [(0, some (Blk.box t_impl_Node (l28 b0))), (1, some (Blk.row t_impl_Item true r1)), (2, some (Blk.row t_bool true r2)), (3, some (Blk.row t_int' true r3)), (4, some (Blk.row t_int' true r4))], 5, [0]⟩ : St) = (bif (decide (i5 < (ln r3))) then bif (idxOk i5 r3.length) then bif (idxOk i5 r4.length) then rounds spec_l4lead_c spec_l4lead_L ((loopsIn (bodyOf Try.f118)).getD 1 .skip) k_ (⟨[(0, (V.bp 0 0)), (5, (vi (w6 (i5 + 1))))], [(0, some (Blk.box t_impl_Node (l28 b0))), (1, some (Blk.row t_impl_Item true r1)), (2, some (Blk.row t_bool true r2)), (3, some (Blk.row t_int' true (r3.set (0 + i5.toNat) (vi (w6 ((ln r1) + 1)))))), (4, some (Blk.row t_int' true (r4.set (0 + i5.toNat) (vi 0))))], 5, [0]⟩ : St) else none else none else some ((Ex.exit 2), (⟨[(0, (V.bp 0 0))], [(0, some (Blk.box t_impl_Node (l28 b0))), (1, some (Blk.row t_impl_Item true r1)), (2, some (Blk.row t_bool true r2)), (3, some (Blk.row t_int' true r3)), (4, some (Blk.row t_int' true r4))], 5, [0]⟩ : St))) := by kernel_rfl
    rw [h, spec_l4lead_l13]
    clear h
    repeat' (first | exact A0 | refine A1 ?_ ?_ | refine A2 fun _ => ?_ | refine A3 fun _ => ?_ | exact A4 (by kernel_rfl) | exact ih _ _ _ _ _ _)
theorem spec_l4lead_lo : LoopsOk spec_l4lead_c spec_l4lead_L (bodyOf Try.f118) := by
  refine GoodAll.ok (l := [spec_l4lead_l3_e, spec_l4lead_l13_e]) ?_ rfl
  refine GoodAll.cons 0 (by kernel_rfl) ?_ ?_
  · exact good_of (key := 3) (ss := spec_l4lead_l3_ss) (F := spec_l4lead_l3_F) (ix := fun r_ => 0) (ps := spec_l4lead_l3_ps) (fun st => ((((br st 2).length : Nat) : Int) - ((sv st 2).I)).toNat + 1) fun st h => by
      have q := spec_l4lead_l3_ok (((((br st 2).length : Nat) : Int) - ((sv st 2).I)).toNat + 1) ((sv st 1).I) ((sv st 2).I) (bc st 0) (br st 1) (br st 2) (br st 3) (br st 4)
      rw [show (⟨[(0, (V.bp 0 0)), (3, (vi ((sv st 1).I))), (4, (vi ((sv st 2).I)))], [(0, some (Blk.box t_impl_Node (l28 (bc st 0)))), (1, some (Blk.row t_impl_Item true (br st 1))), (2, some (Blk.row t_bool true (br st 2))), (3, some (Blk.row t_int' true (br st 3))), (4, some (Blk.row t_int' true (br st 4)))], 5, [0]⟩ : St) = st from h] at q
      exact q
  refine GoodAll.cons 1 (by kernel_rfl) ?_ ?_
  · exact good_of (key := 13) (ss := spec_l4lead_l13_ss) (F := spec_l4lead_l13_F) (ix := fun r_ => 0) (ps := spec_l4lead_l13_ps) (fun st => ((((br st 3).length : Nat) : Int) - ((sv st 1).I)).toNat + 1) fun st h => by
      have q := spec_l4lead_l13_ok (((((br st 3).length : Nat) : Int) - ((sv st 1).I)).toNat + 1) ((sv st 1).I) (bc st 0) (br st 1) (br st 2) (br st 3) (br st 4)
      rw [show (⟨[(0, (V.bp 0 0)), (5, (vi ((sv st 1).I)))], [(0, some (Blk.box t_impl_Node (l28 (bc st 0)))), (1, some (Blk.row t_impl_Item true (br st 1))), (2, some (Blk.row t_bool true (br st 2))), (3, some (Blk.row t_int' true (br st 3))), (4, some (Blk.row t_int' true (br st 4)))], 5, [0]⟩ : St) = st from h] at q
      exact q
  exact GoodAll.nil
def spec_l4lead_sh (r_ : List V × V) : V × List V := ((V.rr t_impl_Msg false r_.1), [(V.rf t_impl_Node (l21 r_.2))])
set_option maxRecDepth 100000 in
theorem spec_l4lead_e (n : V) : Agr (wkF [[(.rr t_impl_Msg false)]] [q11]) spec_l4lead_sh (spec_l4lead n) (evalFn spec_l4lead_c spec_l4lead_L Try.f118 [(V.rf t_impl_Node (l21 n))]) := by
  have h : evalFn spec_l4lead_c spec_l4lead_L Try.f118 [(V.rf t_impl_Node (l21 n))] = (rcall (spec_l4lead_l3 (((((gl n 8).length : Nat) : Int) - 0).toNat + 1) 0 0 (h31 n) (gl n 3) (gl n 8) (gl n 9) (gl n 10)) fun r63 => bif (!(spec_l4most r63.1 (ln r63.2.2.2.1))) then some ((V.nil t_impl_Msg), [(V.rf t_impl_Node [(vi (gi r63.2.1 0)), (vi (gi r63.2.1 1)), (vi (gi r63.2.1 2)), (V.rr t_impl_Item true r63.2.2.1), (vi (gi r63.2.1 4)), (vi (gi r63.2.1 5)), (vi (gi r63.2.1 6)), (vi (gi r63.2.1 7)), (V.rr t_bool true r63.2.2.2.1), (V.rr t_int' true r63.2.2.2.2.1), (V.rr t_int' true r63.2.2.2.2.2)])]) else rcall (spec_l4lead_l13 (((ln r63.2.2.2.2.1) - 0).toNat + 1) 0 (V.agg [(vi (gi r63.2.1 0)), (vi (gi r63.2.1 1)), (vi (gi r63.2.1 2)), (vs 1 t_impl_Item), (vi (gi r63.2.1 4)), (vi 2), (vi (gi r63.2.1 0)), (vi 0), (vs 2 t_bool), (vs 3 t_int'), (vs 4 t_int')]) r63.2.2.1 r63.2.2.2.1 r63.2.2.2.2.1 r63.2.2.2.2.2) fun r64 => bif (decide ((ln r64.2.1) < 400)) then bif ((roomy (0 + r64.2.1.length) 88) && true) then bif ((roomy (r64.2.1.length + 1) 88) && true) then rcall (spec_l4commit_v1 (V.agg [(vi (gi r64.1 0)), (vi (gi r64.1 1)), (vi (gi r64.1 2)), (V.inl t_impl_Item (r64.2.1 ++ [(V.agg [(vi (gi r64.1 1)), (vi (-1)), (vi 0), (vi 0), (V.inl t_byte []), (V.inl t_byte []), (vi 0)])])), (vi (gi r64.1 4)), (vi (gi r64.1 5)), (vi (gi r64.1 6)), (vi (gi r64.1 7)), (V.inl t_bool r64.2.2.1), (V.inl t_int' r64.2.2.2.1), (V.inl t_int' r64.2.2.2.2)])) fun r65 => rcall (spec_l4all_v2 (n_impl_Node r65)) fun r66 => some ((V.rr t_impl_Msg false r66.1), [(V.rf t_impl_Node (l21 r66.2))]) else none else none else rcall (spec_l4commit_v1 (V.agg [(vi (gi r64.1 0)), (vi (gi r64.1 1)), (vi (gi r64.1 2)), (V.inl t_impl_Item r64.2.1), (vi (gi r64.1 4)), (vi (gi r64.1 5)), (vi (gi r64.1 6)), (vi (gi r64.1 7)), (V.inl t_bool r64.2.2.1), (V.inl t_int' r64.2.2.2.1), (V.inl t_int' r64.2.2.2.2)])) fun r67 => rcall (spec_l4all_v2 (n_impl_Node r67)) fun r68 => some ((V.rr t_impl_Msg false r68.1), [(V.rf t_impl_Node (l21 r68.2))])) := by kernel_rfl
  rw [h, spec_l4lead]
  clear h
  repeat' (first | exact A0 | refine A1 ?_ ?_ | refine A2 fun _ => ?_ | refine A3 fun _ => ?_ | exact A4 (by kernel_rfl))
def spec_l4lead_A : List S2 := [(.rf t_impl_Node q24)]
def spec_l4lead_F (args : List V) : Option (List V × V) := spec_l4lead ((rd args 0).unbox)
def spec_l4lead_s (args : List V) : Option (Bool × (V × List V)) := bif argsOk spec_l4lead_A args then some ((spec_l4lead_F args).isSome, spec_l4lead_sh ((spec_l4lead_F args).getD default)) else none
theorem spec_l4lead_s_ok : ∀ args r, spec_l4lead_s args = some (true, r) → SumOk Try.prog tab 118 args r :=
  Base.sum (cfg := spec_l4lead_c) (F := spec_l4lead_F) (shr := spec_l4lead_sh) base spec_l4lead_c_ok Try.func118 (by kernel_rfl) spec_l4lead_lo spec_l4lead_A (by kernel_rfl) [[(.rr t_impl_Msg false)]] [q11] (by kernel_rfl) fun args h => by
    have q := spec_l4lead_e ((rd args 0).unbox)
    rw [show [(V.rf t_impl_Node (l21 ((rd args 0).unbox)))] = args from h] at q
    exact q
def spec_l4tick_c : Cfg := ⟨tab, sumsOf [(107, spec_l4all_v2_s), (117, spec_l4follow_s), (118, spec_l4lead_s), (81, spec_l4termAt_s)], fun _ => false, fun f => (look [(107, [none]), (117, [none, none]), (118, [none]), (81, [none, none])] f).getD [], false, fun f => Nat.beq f 81⟩
theorem spec_l4tick_c_ok : SumsOk Try.prog tab spec_l4tick_c.sums := sums_cons f107_en spec_l4all_v2_s_ok (sums_cons f117_en spec_l4follow_s_ok (sums_cons f118_en spec_l4lead_s_ok (sums_cons f81_en spec_l4termAt_s_ok (sums_nil))))
def spec_l4tick_l17_F (st : St) : Option (V × List V × List V × List V × List V × List V) := spec_l4tick_l17 (((((br st 3).length : Nat) : Int) - ((sv st 2).I)).toNat + 1) ((sv st 2).I) (bc st 0) (br st 1) (br st 2) (br st 3) (br st 4) (br st 5)
def spec_l4tick_l17_ps (r_ : V × List V × List V × List V × List V × List V) : List (Ex × St) := [((Ex.exit 0), (⟨[(3, (vs 1 t_impl_Msg))], [(0, some (Blk.box t_impl_Node (l25 r_.1))), (1, some (Blk.row t_impl_Msg true r_.2.1)), (2, some (Blk.row t_impl_Item true r_.2.2.1)), (3, some (Blk.row t_bool true r_.2.2.2.1)), (4, some (Blk.row t_int' true r_.2.2.2.2.1)), (5, some (Blk.row t_int' true r_.2.2.2.2.2))], 6, [0]⟩ : St))]
def spec_l4tick_l17_ss : SS := ⟨[(0, (.one (.bp 0 0))), (3, (.one (.sl 1 t_impl_Msg))), (4, (.one (.int .i64)))], [(.box t_impl_Node q26), (.row t_impl_Msg true), (.row t_impl_Item true), (.row t_bool true), (.row t_int' true), (.row t_int' true)], 6, [0]⟩
def spec_l4tick_l17_e : LE := ⟨17, spec_l4tick_l17_ss, fun st => Out.tst (spec_l4tick_l17_F st).isSome (brs ((fun r_ => 0) ((spec_l4tick_l17_F st).getD default)) 0 (spec_l4tick_l17_ps ((spec_l4tick_l17_F st).getD default)))⟩
def spec_l4tick_L : Loops := ⟨fun k => (look [(17, [0, 3, 4])] k).getD [], fun k => (look [(17, [⟨3, none, true⟩])] k).getD [], fun k => (look [(17, [3])] k).getD [], runL [spec_l4tick_l17_e]⟩
theorem spec_l4tick_l17_ok (k_ : Nat) : ∀ (i4 : Int) (b0 : V) (r1 : List V) (r2 : List V) (r3 : List V) (r4 : List V) (r5 : List V), Agr id (fun r_ => pick (0) 0 (spec_l4tick_l17_ps r_)) (spec_l4tick_l17 k_ i4 b0 r1 r2 r3 r4 r5) (rounds spec_l4tick_c spec_l4tick_L ((loopsIn (bodyOf Try.f73)).getD 0 .skip) k_ (⟨[(0, (V.bp 0 0)), (3, (vs 1 t_impl_Msg)), (4, (vi i4))], [(0, some (Blk.box t_impl_Node (l25 b0))), (1, some (Blk.row t_impl_Msg true r1)), (2, some (Blk.row t_impl_Item true r2)), (3, some (Blk.row t_bool true r3)), (4, some (Blk.row t_int' true r4)), (5, some (Blk.row t_int' true r5))], 6, [0]⟩ : St)) := by
  induction k_ with
  | zero => intros; exact A0
  | succ k_ ih =>
    intro i4 b0 r1 r2 r3 r4 r5
    have h : rounds spec_l4tick_c spec_l4tick_L ((loopsIn (bodyOf Try.f73)).getD 0 .skip) (k_ + 1) (⟨[(0, (V.bp 0 0)), (3, (vs 1 t_impl_Msg)), (4, (vi i4))], [(0, some (Blk.box t_impl_Node (l25 b0))), (1, some (Blk.row t_impl_Msg true r1)), (2, some (Blk.row t_impl_Item true r2)), (3, some (Blk.row t_bool true r3)), (4, some (Blk.row t_int' true r4)), (5, some (Blk.row t_int' true r5))], 6, [0]⟩ : St) = (bif (decide (i4 < (ln r3))) then bif (!(decide (i4 = (gi b0 0)))) then rcall (spec_l4termAt (V.agg [(vi (gi b0 0)), (vi (gi b0 1)), (vi (gi b0 2)), (V.inl t_impl_Item r2), (vi (gi b0 4)), (vi (gi b0 5)), (vi (gi b0 6)), (vi (gi b0 7)), (V.inl t_bool r3), (V.inl t_int' r4), (V.inl t_int' r5)]) (ln r2)) fun r73 => bif ((roomy (r1.length + 1) 88) && true) then rounds spec_l4tick_c spec_l4tick_L ((loopsIn (bodyOf Try.f73)).getD 0 .skip) k_ (⟨[(0, (V.bp 0 0)), (3, (vs 1 t_impl_Msg)), (4, (vi (w6 (i4 + 1))))], [(0, some (Blk.box t_impl_Node (l25 b0))), (1, some (Blk.row t_impl_Msg true (r1 ++ [(V.agg [(vi 0), (vi (gi b0 0)), (vi i4), (vi (gi b0 1)), (vi (ln r2)), (vi r73), (V.inl t_impl_Item []), (vi 0), (V.bool false)])]))), (2, some (Blk.row t_impl_Item true r2)), (3, some (Blk.row t_bool true r3)), (4, some (Blk.row t_int' true r4)), (5, some (Blk.row t_int' true r5))], 6, [0]⟩ : St) else none else rounds spec_l4tick_c spec_l4tick_L ((loopsIn (bodyOf Try.f73)).getD 0 .skip) k_ (⟨[(0, (V.bp 0 0)), (3, (vs 1 t_impl_Msg)), (4, (vi (w6 (i4 + 1))))], [(0, some (Blk.box t_impl_Node (l25 b0))), (1, some (Blk.row t_impl_Msg true r1)), (2, some (Blk.row t_impl_Item true r2)), (3, some (Blk.row t_bool true r3)), (4, some (Blk.row t_int' true r4)), (5, some (Blk.row t_int' true r5))], 6, [0]⟩ : St) else some ((Ex.exit 0), (⟨[(3, (vs 1 t_impl_Msg))], [(0, some (Blk.box t_impl_Node (l25 b0))), (1, some (Blk.row t_impl_Msg true r1)), (2, some (Blk.row t_impl_Item true r2)), (3, some (Blk.row t_bool true r3)), (4, some (Blk.row t_int' true r4)), (5, some (Blk.row t_int' true r5))], 6, [0]⟩ : St))) := by kernel_rfl
    rw [h, spec_l4tick_l17]
    clear h
    repeat' (first | exact A0 | refine A1 ?_ ?_ | refine A2 fun _ => ?_ | refine A3 fun _ => ?_ | exact A4 (by kernel_rfl) | exact ih _ _ _ _ _ _ _)
theorem spec_l4tick_lo : LoopsOk spec_l4tick_c spec_l4tick_L (bodyOf Try.f73) := by
  refine GoodAll.ok (l := [spec_l4tick_l17_e]) ?_ rfl
  refine GoodAll.cons 0 (by kernel_rfl) ?_ ?_
  · exact good_of (key := 17) (ss := spec_l4tick_l17_ss) (F := spec_l4tick_l17_F) (ix := fun r_ => 0) (ps := spec_l4tick_l17_ps) (fun st => ((((br st 3).length : Nat) : Int) - ((sv st 2).I)).toNat + 1) fun st h => by
      have q := spec_l4tick_l17_ok (((((br st 3).length : Nat) : Int) - ((sv st 2).I)).toNat + 1) ((sv st 2).I) (bc st 0) (br st 1) (br st 2) (br st 3) (br st 4) (br st 5)
      rw [show (⟨[(0, (V.bp 0 0)), (3, (vs 1 t_impl_Msg)), (4, (vi ((sv st 2).I)))], [(0, some (Blk.box t_impl_Node (l25 (bc st 0)))), (1, some (Blk.row t_impl_Msg true (br st 1))), (2, some (Blk.row t_impl_Item true (br st 2))), (3, some (Blk.row t_bool true (br st 3))), (4, some (Blk.row t_int' true (br st 4))), (5, some (Blk.row t_int' true (br st 5)))], 6, [0]⟩ : St) = st from h] at q
      exact q
  exact GoodAll.nil
def spec_l4tick_sh (r_ : List V × V) : V × List V := ((V.rr t_impl_Msg false r_.1), [(V.rf t_impl_Node (l21 r_.2))])
set_option maxRecDepth 100000 in
theorem spec_l4tick_e (n : V) : Agr (wkF [[(.rr t_impl_Msg false)]] [q11]) spec_l4tick_sh (spec_l4tick n) (evalFn spec_l4tick_c spec_l4tick_L Try.f73 [(V.rf t_impl_Node (l21 n))]) := by
  have h : evalFn spec_l4tick_c spec_l4tick_L Try.f73 [(V.rf t_impl_Node (l21 n))] = (bif (decide ((gi n 5) = 2)) then rcall (spec_l4all_v2 (n_impl_Node n)) fun r70 => some ((V.rr t_impl_Msg false r70.1), [(V.rf t_impl_Node (l21 r70.2))]) else bif (decide ((w6 ((gi n 7) + 1)) < (w6 (3 + (w6 (2 * (gi n 0))))))) then bif (decide ((20 : Int) < (w6 ((gi n 7) + 1)))) then some ((V.nil t_impl_Msg), [(V.rf t_impl_Node (l32 n))]) else some ((V.nil t_impl_Msg), [(V.rf t_impl_Node [(vi (gi n 0)), (vi (gi n 1)), (vi (gi n 2)), (V.rr t_impl_Item true (gl n 3)), (vi (gi n 4)), (vi (gi n 5)), (vi (gi n 6)), (vi (w6 ((gi n 7) + 1))), (V.rr t_bool true (gl n 8)), (V.rr t_int' true (gl n 9)), (V.rr t_int' true (gl n 10))])]) else bif (decide ((100000 : Int) ≤ (gi n 1))) then bif (decide ((20 : Int) < (w6 ((gi n 7) + 1)))) then some ((V.nil t_impl_Msg), [(V.rf t_impl_Node (l32 n))]) else some ((V.nil t_impl_Msg), [(V.rf t_impl_Node [(vi (gi n 0)), (vi (gi n 1)), (vi (gi n 2)), (V.rr t_impl_Item true (gl n 3)), (vi (gi n 4)), (vi (gi n 5)), (vi (gi n 6)), (vi (w6 ((gi n 7) + 1))), (V.rr t_bool true (gl n 8)), (V.rr t_int' true (gl n 9)), (V.rr t_int' true (gl n 10))])]) else rcall (spec_l4follow (V.agg [(vi (gi n 0)), (vi (gi n 1)), (vi (gi n 2)), (V.inl t_impl_Item (gl n 3)), (vi (gi n 4)), (vi (gi n 5)), (vi (gi n 6)), (vi (w6 ((gi n 7) + 1))), (V.inl t_bool (gl n 8)), (V.inl t_int' (gl n 9)), (V.inl t_int' (gl n 10))]) (w6 ((gi n 1) + 1))) fun r71 => bif (idxOk (gi r71 0) ((gl r71 8).length)) then bif (decide (((((gl r71 8).set (0 + ((gi r71 0).toNat)) (V.bool true)).length : Nat) : Int) = 1)) then rcall (spec_l4lead (V.agg [(vi (gi r71 0)), (vi (gi r71 1)), (vi (gi r71 0)), (V.inl t_impl_Item (gl r71 3)), (vi (gi r71 4)), (vi 1), (vi (gi r71 6)), (vi 0), (V.inl t_bool ((gl r71 8).set (0 + ((gi r71 0).toNat)) (V.bool true))), (V.inl t_int' (gl r71 9)), (V.inl t_int' (gl r71 10))])) fun r72 => some ((V.rr t_impl_Msg false r72.1), [(V.rf t_impl_Node (l21 r72.2))]) else rcall (spec_l4tick_l17 ((((((gl r71 8).set (0 + ((gi r71 0).toNat)) (V.bool true)).length : Nat) : Int) - 0).toNat + 1) 0 (V.agg [(vi (gi r71 0)), (vi (gi r71 1)), (vi (gi r71 0)), (vs 2 t_impl_Item), (vi (gi r71 4)), (vi 1), (vi (gi r71 6)), (vi 0), (vs 3 t_bool), (vs 4 t_int'), (vs 5 t_int')]) [] (gl r71 3) ((gl r71 8).set (0 + ((gi r71 0).toNat)) (V.bool true)) (gl r71 9) (gl r71 10)) fun r74 => some ((V.rr t_impl_Msg true r74.2.1), [(V.rf t_impl_Node [(vi (gi r74.1 0)), (vi (gi r74.1 1)), (vi (gi r74.1 2)), (V.rr t_impl_Item true r74.2.2.1), (vi (gi r74.1 4)), (vi (gi r74.1 5)), (vi (gi r74.1 6)), (vi (gi r74.1 7)), (V.rr t_bool true r74.2.2.2.1), (V.rr t_int' true r74.2.2.2.2.1), (V.rr t_int' true r74.2.2.2.2.2)])]) else none) := by kernel_rfl
  rw [h, spec_l4tick]
  clear h
  repeat' (first | exact A0 | refine A1 ?_ ?_ | refine A2 fun _ => ?_ | refine A3 fun _ => ?_ | exact A4 (by kernel_rfl))
def spec_l4tick_A : List S2 := [(.rf t_impl_Node q24)]
def spec_l4tick_F (args : List V) : Option (List V × V) := spec_l4tick ((rd args 0).unbox)
def spec_l4tick_s (args : List V) : Option (Bool × (V × List V)) := bif argsOk spec_l4tick_A args then some ((spec_l4tick_F args).isSome, spec_l4tick_sh ((spec_l4tick_F args).getD default)) else none
theorem spec_l4tick_s_ok : ∀ args r, spec_l4tick_s args = some (true, r) → SumOk Try.prog tab 73 args r :=
  Base.sum (cfg := spec_l4tick_c) (F := spec_l4tick_F) (shr := spec_l4tick_sh) base spec_l4tick_c_ok Try.func73 (by kernel_rfl) spec_l4tick_lo spec_l4tick_A (by kernel_rfl) [[(.rr t_impl_Msg false)]] [q11] (by kernel_rfl) fun args h => by
    have q := spec_l4tick_e ((rd args 0).unbox)
    rw [show [(V.rf t_impl_Node (l21 ((rd args 0).unbox)))] = args from h] at q
    exact q
def spec_l4ownMsgs_c : Cfg := ⟨tab, sumsOf [(42, spec_l3ownItems_s)], fun _ => false, fun f => (look [(42, [some t_impl_Item])] f).getD [], false, fun _ => false⟩
theorem spec_l4ownMsgs_c_ok : SumsOk Try.prog tab spec_l4ownMsgs_c.sums := sums_cons f42_en spec_l3ownItems_s_ok (sums_nil)
def spec_l4ownMsgs_l3_F (st : St) : Option (List V) := spec_l4ownMsgs_l3 ((((((sv st 0).L).length : Nat) : Int) - ((sv st 2).I)).toNat + 1) ((sv st 0).L) ((sv st 2).I) (br st 0)
def spec_l4ownMsgs_l3_ps (r_ : List V) : List (Ex × St) := [((Ex.exit 0), (⟨[(3, (vs 0 t_impl_Msg))], [(0, some (Blk.row t_impl_Msg true r_))], 1, []⟩ : St))]
def spec_l4ownMsgs_l3_ss : SS := ⟨[(0, (.one (.inl t_impl_Msg))), (3, (.one (.sl 0 t_impl_Msg))), (4, (.one (.int .i64)))], [(.row t_impl_Msg true)], 1, []⟩
def spec_l4ownMsgs_l3_e : LE := ⟨3, spec_l4ownMsgs_l3_ss, fun st => Out.tst (spec_l4ownMsgs_l3_F st).isSome (brs ((fun r_ => 0) ((spec_l4ownMsgs_l3_F st).getD default)) 0 (spec_l4ownMsgs_l3_ps ((spec_l4ownMsgs_l3_F st).getD default)))⟩
def spec_l4ownMsgs_L : Loops := ⟨fun k => (look [(3, [0, 3, 4])] k).getD [], fun k => (look [(3, [⟨3, none, true⟩])] k).getD [], fun k => (look [(3, [3])] k).getD [], runL [spec_l4ownMsgs_l3_e]⟩
theorem spec_l4ownMsgs_l3_ok (k_ : Nat) : ∀ (l0 : List V) (i4 : Int) (r0 : List V), Agr id (fun r_ => pick (0) 0 (spec_l4ownMsgs_l3_ps r_)) (spec_l4ownMsgs_l3 k_ l0 i4 r0) (rounds spec_l4ownMsgs_c spec_l4ownMsgs_L ((loopsIn (bodyOf Try.f57)).getD 0 .skip) k_ (⟨[(0, (V.inl t_impl_Msg l0)), (3, (vs 0 t_impl_Msg)), (4, (vi i4))], [(0, some (Blk.row t_impl_Msg true r0))], 1, []⟩ : St)) := by
  induction k_ with
  | zero => intros; exact A0
  | succ k_ ih =>
    intro l0 i4 r0
    have h : rounds spec_l4ownMsgs_c spec_l4ownMsgs_L ((loopsIn (bodyOf Try.f57)).getD 0 .skip) (k_ + 1) (⟨[(0, (V.inl t_impl_Msg l0)), (3, (vs 0 t_impl_Msg)), (4, (vi i4))], [(0, some (Blk.row t_impl_Msg true r0))], 1, []⟩ : St) = (bif (decide (i4 < (ln l0))) then bif (idxOk i4 l0.length) then rcall (spec_l3ownItems (gl (rd l0 i4.toNat) 6)) fun r77 => bif ((roomy (r0.length + 1) 88) && true) then rounds spec_l4ownMsgs_c spec_l4ownMsgs_L ((loopsIn (bodyOf Try.f57)).getD 0 .skip) k_ (⟨[(0, (V.inl t_impl_Msg l0)), (3, (vs 0 t_impl_Msg)), (4, (vi (w6 (i4 + 1))))], [(0, some (Blk.row t_impl_Msg true (r0 ++ [(V.agg [(vi (gi (rd l0 i4.toNat) 0)), (vi (gi (rd l0 i4.toNat) 1)), (vi (gi (rd l0 i4.toNat) 2)), (vi (gi (rd l0 i4.toNat) 3)), (vi (gi (rd l0 i4.toNat) 4)), (vi (gi (rd l0 i4.toNat) 5)), (V.inl t_impl_Item r77), (vi (gi (rd l0 i4.toNat) 7)), (V.bool (gb (rd l0 i4.toNat) 8))])])))], 1, []⟩ : St) else none else none else some ((Ex.exit 0), (⟨[(3, (vs 0 t_impl_Msg))], [(0, some (Blk.row t_impl_Msg true r0))], 1, []⟩ : St))) := by kernel_rfl
    rw [h, spec_l4ownMsgs_l3]
    clear h
    repeat' (first | exact A0 | refine A1 ?_ ?_ | refine A2 fun _ => ?_ | refine A3 fun _ => ?_ | exact A4 (by kernel_rfl) | exact ih _ _ _)
theorem spec_l4ownMsgs_lo : LoopsOk spec_l4ownMsgs_c spec_l4ownMsgs_L (bodyOf Try.f57) := by
  refine GoodAll.ok (l := [spec_l4ownMsgs_l3_e]) ?_ rfl
  refine GoodAll.cons 0 (by kernel_rfl) ?_ ?_
  · exact good_of (key := 3) (ss := spec_l4ownMsgs_l3_ss) (F := spec_l4ownMsgs_l3_F) (ix := fun r_ => 0) (ps := spec_l4ownMsgs_l3_ps) (fun st => (((((sv st 0).L).length : Nat) : Int) - ((sv st 2).I)).toNat + 1) fun st h => by
      have q := spec_l4ownMsgs_l3_ok ((((((sv st 0).L).length : Nat) : Int) - ((sv st 2).I)).toNat + 1) ((sv st 0).L) ((sv st 2).I) (br st 0)
      rw [show (⟨[(0, (V.inl t_impl_Msg ((sv st 0).L))), (3, (vs 0 t_impl_Msg)), (4, (vi ((sv st 2).I)))], [(0, some (Blk.row t_impl_Msg true (br st 0)))], 1, []⟩ : St) = st from h] at q
      exact q
  exact GoodAll.nil
def spec_l4ownMsgs_sh (r_ : List V) : V × List V := ((V.rr t_impl_Msg true r_), [])
theorem spec_l4ownMsgs_e (l : List V) : Agr (wkF [[(.rr t_impl_Msg true)]] []) spec_l4ownMsgs_sh (spec_l4ownMsgs l) (evalFn spec_l4ownMsgs_c spec_l4ownMsgs_L Try.f57 [(V.inl t_impl_Msg l)]) := by
  have h : evalFn spec_l4ownMsgs_c spec_l4ownMsgs_L Try.f57 [(V.inl t_impl_Msg l)] = (rcall (spec_l4ownMsgs_l3 (((ln l) - 0).toNat + 1) l 0 []) fun r78 => some ((V.rr t_impl_Msg true r78), [])) := by kernel_rfl
  rw [h, spec_l4ownMsgs]
  clear h
  repeat' (first | exact A0 | refine A1 ?_ ?_ | refine A2 fun _ => ?_ | refine A3 fun _ => ?_ | exact A4 (by kernel_rfl))
def spec_l4ownMsgs_A : List S2 := [(.one (.inl t_impl_Msg))]
def spec_l4ownMsgs_F (args : List V) : Option (List V) := spec_l4ownMsgs ((rd args 0).L)
def spec_l4ownMsgs_s (args : List V) : Option (Bool × (V × List V)) := bif argsOk spec_l4ownMsgs_A args then some ((spec_l4ownMsgs_F args).isSome, spec_l4ownMsgs_sh ((spec_l4ownMsgs_F args).getD default)) else none
theorem spec_l4ownMsgs_s_ok : ∀ args r, spec_l4ownMsgs_s args = some (true, r) → SumOk Try.prog tab 57 args r :=
  Base.sum (cfg := spec_l4ownMsgs_c) (F := spec_l4ownMsgs_F) (shr := spec_l4ownMsgs_sh) base spec_l4ownMsgs_c_ok Try.func57 (by kernel_rfl) spec_l4ownMsgs_lo spec_l4ownMsgs_A (by kernel_rfl) [[(.rr t_impl_Msg true)]] [] (by kernel_rfl) fun args h => by
    have q := spec_l4ownMsgs_e ((rd args 0).L)
    rw [show [(V.inl t_impl_Msg ((rd args 0).L))] = args from h] at q
    exact q
def spec_Tick_c : Cfg := ⟨tab, sumsOf [(33, spec_NodeOk_s), (65, spec_l4own_s), (73, spec_l4tick_s), (57, spec_l4ownMsgs_s)], fun _ => false, fun f => (look [(33, [none, none]), (65, [none]), (73, [none]), (57, [some t_impl_Msg])] f).getD [], false, fun _ => false⟩
theorem spec_Tick_c_ok : SumsOk Try.prog tab spec_Tick_c.sums := sums_cons f33_en spec_NodeOk_s_ok (sums_cons f65_en spec_l4own_s_ok (sums_cons f73_en spec_l4tick_s_ok (sums_cons f57_en spec_l4ownMsgs_s_ok (sums_nil))))
abbrev spec_Tick_L : Loops := noL
def spec_Tick_sh (r_ : V × List V) : V × List V := ((V.tup [(h10 r_.1), (V.rr t_impl_Msg true r_.2)]), [])
theorem spec_Tick_e (n : V) (servers : Int) : Agr (wkF [q11, [(.rr t_impl_Msg true)]] []) spec_Tick_sh (spec_Tick n servers) (evalFn spec_Tick_c spec_Tick_L Try.f29 [(n_impl_Node n), (vi servers)]) := by
  have h : evalFn spec_Tick_c spec_Tick_L Try.f29 [(n_impl_Node n), (vi servers)] = (rcall (spec_NodeOk (n_impl_Node n) servers) fun r31 => bif (!r31) then some ((V.tup [(V.agg [(vi 0), (vi 0), (vi 0), (V.nil t_impl_Item), (vi 0), (vi 0), (vi 0), (vi 0), (V.nil t_bool), (V.nil t_int'), (V.nil t_int')]), (V.nil t_impl_Msg)]), []) else rcall (spec_l4own (n_impl_Node n)) fun r35 => rcall (spec_l4tick (n_impl_Node r35)) fun r75 => rcall (spec_l4own (n_impl_Node r75.2)) fun r76 => rcall (spec_l4ownMsgs r75.1) fun r79 => some ((V.tup [(h10 r76), (V.rr t_impl_Msg true r79)]), [])) := by kernel_rfl
  rw [h, spec_Tick]
  clear h
  repeat' (first | exact A0 | refine A1 ?_ ?_ | refine A2 fun _ => ?_ | refine A3 fun _ => ?_ | exact A4 (by kernel_rfl))
def spec_Tick_A : List S2 := [(.agg q13), (.one (.int .i64))]
def spec_Tick_F (args : List V) : Option (V × List V) := spec_Tick (rd args 0) ((rd args 1).I)
def spec_Tick_s (args : List V) : Option (Bool × (V × List V)) := bif argsOk spec_Tick_A args then some ((spec_Tick_F args).isSome, spec_Tick_sh ((spec_Tick_F args).getD default)) else none
theorem spec_Tick_s_ok : ∀ args r, spec_Tick_s args = some (true, r) → SumOk Try.prog tab 29 args r :=
  Base.sum (cfg := spec_Tick_c) (F := spec_Tick_F) (shr := spec_Tick_sh) base spec_Tick_c_ok Try.func29 (by kernel_rfl) noLo spec_Tick_A (by kernel_rfl) [q11, [(.rr t_impl_Msg true)]] [] (by kernel_rfl) fun args h => by
    have q := spec_Tick_e (rd args 0) ((rd args 1).I)
    rw [show [(n_impl_Node (rd args 0)), (vi ((rd args 1).I))] = args from h] at q
    exact q
def impl_within_c : Cfg := ⟨tab, sumsOf [], fun _ => false, fun f => (look [] f).getD [], false, fun _ => false⟩
theorem impl_within_c_ok : SumsOk Try.prog tab impl_within_c.sums := sums_nil
abbrev impl_within_L : Loops := noL
def impl_within_sh (r_ : Bool) : V × List V := ((V.bool r_), [])
theorem impl_within_e (n : Int) (low : Int) (high : Int) : Tot (wkF [[.dead]] []) impl_within_sh (impl_within n low high) (evalFn impl_within_c impl_within_L Try.f90 [(vi n), (vi low), (vi high)]) := by
  have h : evalFn impl_within_c impl_within_L Try.f90 [(vi n), (vi low), (vi high)] = (bif (decide (low ≤ n)) then some ((V.bool (decide (n ≤ high))), []) else some ((V.bool false), [])) := by kernel_rfl
  rw [h, impl_within]
  clear h
  repeat' (first | refine A5 ?_ ?_ | refine A6 fun _ => ?_ | exact A7 (by kernel_rfl))
def impl_within_A : List S2 := [(.one (.int .i64)), (.one (.int .i64)), (.one (.int .i64))]
def impl_within_F (args : List V) : Bool := impl_within ((rd args 0).I) ((rd args 1).I) ((rd args 2).I)
def impl_within_s (args : List V) : Option (Bool × (V × List V)) := bif argsOk impl_within_A args then some (true, impl_within_sh (impl_within_F args)) else none
theorem impl_within_s_ok : ∀ args r, impl_within_s args = some (true, r) → SumOk Try.prog tab 90 args r :=
  Base.sumT (cfg := impl_within_c) (F := impl_within_F) (shr := impl_within_sh) base impl_within_c_ok Try.func90 (by kernel_rfl) noLo impl_within_A (by kernel_rfl) [[.dead]] [] (by kernel_rfl) fun args h => by
    have q := impl_within_e ((rd args 0).I) ((rd args 1).I) ((rd args 2).I)
    rw [show [(vi ((rd args 0).I)), (vi ((rd args 1).I)), (vi ((rd args 2).I))] = args from h] at q
    exact q
def impl_isServer_c : Cfg := ⟨tab, sumsOf [(90, impl_within_s)], fun _ => false, fun f => (look [(90, [none, none, none])] f).getD [], false, fun _ => false⟩
theorem impl_isServer_c_ok : SumsOk Try.prog tab impl_isServer_c.sums := sums_cons f90_en impl_within_s_ok (sums_nil)
abbrev impl_isServer_L : Loops := noL
def impl_isServer_sh (r_ : Bool) : V × List V := ((V.bool r_), [])
theorem impl_isServer_e (id : Int) (servers : Int) : Tot (wkF [[.dead]] []) impl_isServer_sh (impl_isServer id servers) (evalFn impl_isServer_c impl_isServer_L Try.f89 [(vi id), (vi servers)]) := by
  have h : evalFn impl_isServer_c impl_isServer_L Try.f89 [(vi id), (vi servers)] = (bif impl_within servers 1 5 then some ((V.bool (impl_within id 0 (w6 (servers - 1)))), []) else some ((V.bool false), [])) := by kernel_rfl
  rw [h, impl_isServer]
  clear h
  repeat' (first | refine A5 ?_ ?_ | refine A6 fun _ => ?_ | exact A7 (by kernel_rfl))
def impl_isServer_A : List S2 := [(.one (.int .i64)), (.one (.int .i64))]
def impl_isServer_F (args : List V) : Bool := impl_isServer ((rd args 0).I) ((rd args 1).I)
def impl_isServer_s (args : List V) : Option (Bool × (V × List V)) := bif argsOk impl_isServer_A args then some (true, impl_isServer_sh (impl_isServer_F args)) else none
theorem impl_isServer_s_ok : ∀ args r, impl_isServer_s args = some (true, r) → SumOk Try.prog tab 89 args r :=
  Base.sumT (cfg := impl_isServer_c) (F := impl_isServer_F) (shr := impl_isServer_sh) base impl_isServer_c_ok Try.func89 (by kernel_rfl) noLo impl_isServer_A (by kernel_rfl) [[.dead]] [] (by kernel_rfl) fun args h => by
    have q := impl_isServer_e ((rd args 0).I) ((rd args 1).I)
    rw [show [(vi ((rd args 0).I)), (vi ((rd args 1).I))] = args from h] at q
    exact q
def impl_isTerm_c : Cfg := ⟨tab, sumsOf [(90, impl_within_s)], fun _ => false, fun f => (look [(90, [none, none, none])] f).getD [], false, fun _ => false⟩
theorem impl_isTerm_c_ok : SumsOk Try.prog tab impl_isTerm_c.sums := sums_cons f90_en impl_within_s_ok (sums_nil)
abbrev impl_isTerm_L : Loops := noL
def impl_isTerm_sh (r_ : Bool) : V × List V := ((V.bool r_), [])
theorem impl_isTerm_e (n : Int) : Tot (wkF [[.dead]] []) impl_isTerm_sh (impl_isTerm n) (evalFn impl_isTerm_c impl_isTerm_L Try.f94 [(vi n)]) := by
  have h : evalFn impl_isTerm_c impl_isTerm_L Try.f94 [(vi n)] = (some ((V.bool (impl_within n 1 100000)), [])) := by kernel_rfl
  rw [h, impl_isTerm]
  clear h
  repeat' (first | refine A5 ?_ ?_ | refine A6 fun _ => ?_ | exact A7 (by kernel_rfl))
def impl_isTerm_A : List S2 := [(.one (.int .i64))]
def impl_isTerm_F (args : List V) : Bool := impl_isTerm ((rd args 0).I)
def impl_isTerm_s (args : List V) : Option (Bool × (V × List V)) := bif argsOk impl_isTerm_A args then some (true, impl_isTerm_sh (impl_isTerm_F args)) else none
theorem impl_isTerm_s_ok : ∀ args r, impl_isTerm_s args = some (true, r) → SumOk Try.prog tab 94 args r :=
  Base.sumT (cfg := impl_isTerm_c) (F := impl_isTerm_F) (shr := impl_isTerm_sh) base impl_isTerm_c_ok Try.func94 (by kernel_rfl) noLo impl_isTerm_A (by kernel_rfl) [[.dead]] [] (by kernel_rfl) fun args h => by
    have q := impl_isTerm_e ((rd args 0).I)
    rw [show [(vi ((rd args 0).I))] = args from h] at q
    exact q
def impl_noOp_c : Cfg := ⟨tab, sumsOf [], fun _ => false, fun f => (look [] f).getD [], false, fun _ => false⟩
theorem impl_noOp_c_ok : SumsOk Try.prog tab impl_noOp_c.sums := sums_nil
abbrev impl_noOp_L : Loops := noL
def impl_noOp_sh (r_ : V) : V × List V := ((h6 r_), [])
theorem impl_noOp_e : Tot (wkF [q7] []) impl_noOp_sh (impl_noOp) (evalFn impl_noOp_c impl_noOp_L Try.f110 []) := by
  have h : evalFn impl_noOp_c impl_noOp_L Try.f110 [] = (some ((V.agg [(vi (-1)), (vi 0), (vi 0), (V.nil t_byte), (V.nil t_byte), (vi 0)]), [])) := by kernel_rfl
  rw [h, impl_noOp]
  clear h
  repeat' (first | refine A5 ?_ ?_ | refine A6 fun _ => ?_ | exact A7 (by kernel_rfl))
def impl_noOp_A : List S2 := []
def impl_noOp_F (args : List V) : V := impl_noOp
def impl_noOp_s (args : List V) : Option (Bool × (V × List V)) := bif argsOk impl_noOp_A args then some (true, impl_noOp_sh (impl_noOp_F args)) else none
theorem impl_noOp_s_ok : ∀ args r, impl_noOp_s args = some (true, r) → SumOk Try.prog tab 110 args r :=
  Base.sumT (cfg := impl_noOp_c) (F := impl_noOp_F) (shr := impl_noOp_sh) base impl_noOp_c_ok Try.func110 (by kernel_rfl) noLo impl_noOp_A (by kernel_rfl) [q7] [] (by kernel_rfl) fun args h => by
    have q := impl_noOp_e
    rw [show ([] : List V) = args from h] at q
    exact q
def bytes_Equal_c : Cfg := ⟨tab, sumsOf [], fun _ => false, fun f => (look [] f).getD [], false, fun _ => false⟩
theorem bytes_Equal_c_ok : SumsOk Try.prog tab bytes_Equal_c.sums := sums_nil
abbrev bytes_Equal_L : Loops := noL
def bytes_Equal_sh (r_ : Bool) : V × List V := ((V.bool r_), [])
theorem bytes_Equal_e (a : List V) (b : List V) : Tot (wkF [[.dead]] []) bytes_Equal_sh (bytes_Equal a b) (evalFn bytes_Equal_c bytes_Equal_L Try.f145 [(V.inl t_byte a), (V.inl t_byte b)]) := by
  have h : evalFn bytes_Equal_c bytes_Equal_L Try.f145 [(V.inl t_byte a), (V.inl t_byte b)] = (some ((V.bool (eqList (a.map normB) (b.map normB))), [])) := by kernel_rfl
  rw [h, bytes_Equal]
  clear h
  repeat' (first | refine A5 ?_ ?_ | refine A6 fun _ => ?_ | exact A7 (by kernel_rfl))
def bytes_Equal_A : List S2 := [(.one (.inl t_byte)), (.one (.inl t_byte))]
def bytes_Equal_F (args : List V) : Bool := bytes_Equal ((rd args 0).L) ((rd args 1).L)
def bytes_Equal_s (args : List V) : Option (Bool × (V × List V)) := bif argsOk bytes_Equal_A args then some (true, bytes_Equal_sh (bytes_Equal_F args)) else none
theorem bytes_Equal_s_ok : ∀ args r, bytes_Equal_s args = some (true, r) → SumOk Try.prog tab 145 args r :=
  Base.sumT (cfg := bytes_Equal_c) (F := bytes_Equal_F) (shr := bytes_Equal_sh) base bytes_Equal_c_ok Try.func145 (by kernel_rfl) noLo bytes_Equal_A (by kernel_rfl) [[.dead]] [] (by kernel_rfl) fun args h => by
    have q := bytes_Equal_e ((rd args 0).L) ((rd args 1).L)
    rw [show [(V.inl t_byte ((rd args 0).L)), (V.inl t_byte ((rd args 1).L))] = args from h] at q
    exact q
def impl_Op_same_c : Cfg := ⟨tab, sumsOf [(145, bytes_Equal_s)], fun _ => false, fun f => (look [(145, [some t_byte, some t_byte])] f).getD [], false, fun _ => false⟩
theorem impl_Op_same_c_ok : SumsOk Try.prog tab impl_Op_same_c.sums := sums_cons f145_en bytes_Equal_s_ok (sums_nil)
abbrev impl_Op_same_L : Loops := noL
def impl_Op_same_sh (r_ : Bool) : V × List V := ((V.bool r_), [])
theorem impl_Op_same_e (o : V) (p : V) : Tot (wkF [[.dead]] []) impl_Op_same_sh (impl_Op_same o p) (evalFn impl_Op_same_c impl_Op_same_L Try.f137 [(n_laws_Op o), (n_laws_Op p)]) := by
  have h : evalFn impl_Op_same_c impl_Op_same_L Try.f137 [(n_laws_Op o), (n_laws_Op p)] = (bif (decide ((gi o 0) = (gi p 0))) then bif bytes_Equal (gl o 1) (gl p 1) then bif bytes_Equal (gl o 2) (gl p 2) then some ((V.bool (decide ((gi o 3) = (gi p 3)))), []) else some ((V.bool false), []) else some ((V.bool false), []) else some ((V.bool false), [])) := by kernel_rfl
  rw [h, impl_Op_same]
  clear h
  repeat' (first | refine A5 ?_ ?_ | refine A6 fun _ => ?_ | exact A7 (by kernel_rfl))
def impl_Op_same_A : List S2 := [(.agg q0), (.agg q0)]
def impl_Op_same_F (args : List V) : Bool := impl_Op_same (rd args 0) (rd args 1)
def impl_Op_same_s (args : List V) : Option (Bool × (V × List V)) := bif argsOk impl_Op_same_A args then some (true, impl_Op_same_sh (impl_Op_same_F args)) else none
theorem impl_Op_same_s_ok : ∀ args r, impl_Op_same_s args = some (true, r) → SumOk Try.prog tab 137 args r :=
  Base.sumT (cfg := impl_Op_same_c) (F := impl_Op_same_F) (shr := impl_Op_same_sh) base impl_Op_same_c_ok Try.func137 (by kernel_rfl) noLo impl_Op_same_A (by kernel_rfl) [[.dead]] [] (by kernel_rfl) fun args h => by
    have q := impl_Op_same_e (rd args 0) (rd args 1)
    rw [show [(n_laws_Op (rd args 0)), (n_laws_Op (rd args 1))] = args from h] at q
    exact q
def impl_Cmd_same_c : Cfg := ⟨tab, sumsOf [(137, impl_Op_same_s)], fun _ => false, fun f => (look [(137, [none, none])] f).getD [], false, fun _ => false⟩
theorem impl_Cmd_same_c_ok : SumsOk Try.prog tab impl_Cmd_same_c.sums := sums_cons f137_en impl_Op_same_s_ok (sums_nil)
abbrev impl_Cmd_same_L : Loops := noL
def impl_Cmd_same_sh (r_ : Bool) : V × List V := ((V.bool r_), [])
theorem impl_Cmd_same_e (c : V) (d : V) : Tot (wkF [[.dead]] []) impl_Cmd_same_sh (impl_Cmd_same c d) (evalFn impl_Cmd_same_c impl_Cmd_same_L Try.f109 [(n_laws_Cmd c), (n_laws_Cmd d)]) := by
  have h : evalFn impl_Cmd_same_c impl_Cmd_same_L Try.f109 [(n_laws_Cmd c), (n_laws_Cmd d)] = (bif (decide ((gi c 0) = (gi d 0))) then bif (decide ((gi c 1) = (gi d 1))) then some ((V.bool (impl_Op_same (V.agg [(vi (gi c 2)), (V.inl t_byte (gl c 3)), (V.inl t_byte (gl c 4)), (vi (gi c 5))]) (V.agg [(vi (gi d 2)), (V.inl t_byte (gl d 3)), (V.inl t_byte (gl d 4)), (vi (gi d 5))]))), []) else some ((V.bool false), []) else some ((V.bool false), [])) := by kernel_rfl
  rw [h, impl_Cmd_same]
  clear h
  repeat' (first | refine A5 ?_ ?_ | refine A6 fun _ => ?_ | exact A7 (by kernel_rfl))
def impl_Cmd_same_A : List S2 := [(.agg q1), (.agg q1)]
def impl_Cmd_same_F (args : List V) : Bool := impl_Cmd_same (rd args 0) (rd args 1)
def impl_Cmd_same_s (args : List V) : Option (Bool × (V × List V)) := bif argsOk impl_Cmd_same_A args then some (true, impl_Cmd_same_sh (impl_Cmd_same_F args)) else none
theorem impl_Cmd_same_s_ok : ∀ args r, impl_Cmd_same_s args = some (true, r) → SumOk Try.prog tab 109 args r :=
  Base.sumT (cfg := impl_Cmd_same_c) (F := impl_Cmd_same_F) (shr := impl_Cmd_same_sh) base impl_Cmd_same_c_ok Try.func109 (by kernel_rfl) noLo impl_Cmd_same_A (by kernel_rfl) [[.dead]] [] (by kernel_rfl) fun args h => by
    have q := impl_Cmd_same_e (rd args 0) (rd args 1)
    rw [show [(n_laws_Cmd (rd args 0)), (n_laws_Cmd (rd args 1))] = args from h] at q
    exact q
def impl_KeyOk_c : Cfg := ⟨tab, sumsOf [(90, impl_within_s)], fun _ => false, fun f => (look [(90, [none, none, none])] f).getD [], false, fun _ => false⟩
theorem impl_KeyOk_c_ok : SumsOk Try.prog tab impl_KeyOk_c.sums := sums_cons f90_en impl_within_s_ok (sums_nil)
def impl_KeyOk_l2_F (st : St) : Option (Nat × List V × Bool) := impl_KeyOk_l2 ((((sv st 2).I) - ((sv st 3).I)).toNat + 1) ((sv st 0).L) ((sv st 1).L) ((sv st 2).I) ((sv st 3).I)
def impl_KeyOk_l2_ps (r_ : Nat × List V × Bool) : List (Ex × St) := [(Ex.ret, (⟨[(0, (V.inl t_byte r_.2.1)), (2, (V.bool r_.2.2))], [], 0, []⟩ : St)), ((Ex.exit 0), (⟨[(0, (V.inl t_byte r_.2.1)), (2, V.dead)], [], 0, []⟩ : St))]
def impl_KeyOk_l2_ss : SS := ⟨[(0, (.one (.inl t_byte))), (5, (.one (.inl t_byte))), (6, (.one (.int .i64))), (7, (.one (.int .i64)))], [], 0, []⟩
def impl_KeyOk_l2_e : LE := ⟨2, impl_KeyOk_l2_ss, fun st => Out.tst (impl_KeyOk_l2_F st).isSome (brs ((fun r_ => r_.1) ((impl_KeyOk_l2_F st).getD default)) 0 (impl_KeyOk_l2_ps ((impl_KeyOk_l2_F st).getD default)))⟩
def impl_KeyOk_L : Loops := ⟨fun k => (look [(2, [0, 5, 6, 7])] k).getD [], fun k => (look [] k).getD [], fun k => (look [(2, [0, 2])] k).getD [], runL [impl_KeyOk_l2_e]⟩
set_option maxRecDepth 100000 in
theorem impl_KeyOk_l2_ok (k_ : Nat) : ∀ (b0 : List V) (v5 : List V) (v6 : Int) (v7 : Int), Agr id (fun r_ => pick (r_.1) 0 (impl_KeyOk_l2_ps r_)) (impl_KeyOk_l2 k_ b0 v5 v6 v7) (rounds impl_KeyOk_c impl_KeyOk_L ((loopsIn (bodyOf Try.f138)).getD 0 .skip) k_ (⟨[(0, (V.inl t_byte b0)), (5, (V.inl t_byte v5)), (6, (vi v6)), (7, (vi v7))], [], 0, []⟩ : St)) := by
  induction k_ with
  | zero => intros; exact A0
  | succ k_ ih =>
    intro b0 v5 v6 v7
    have h : rounds impl_KeyOk_c impl_KeyOk_L ((loopsIn (bodyOf Try.f138)).getD 0 .skip) (k_ + 1) (⟨[(0, (V.inl t_byte b0)), (5, (V.inl t_byte v5)), (6, (vi v6)), (7, (vi v7))], [], 0, []⟩ : St) = (bif (decide (v7 < v6)) then bif (idxOk v7 v5.length) then bif (decide ((gi (rd v5 v7.toNat) 0) < 97)) then bif (!(decide ((gi (rd v5 v7.toNat) 0) = 47))) then some (Ex.ret, (⟨[(0, (V.inl t_byte b0)), (2, (V.bool false))], [], 0, []⟩ : St)) else rounds impl_KeyOk_c impl_KeyOk_L ((loopsIn (bodyOf Try.f138)).getD 0 .skip) k_ (⟨[(0, (V.inl t_byte b0)), (5, (V.inl t_byte v5)), (6, (vi v6)), (7, (vi (w6 (v7 + 1))))], [], 0, []⟩ : St) else bif (decide ((122 : Int) < (gi (rd v5 v7.toNat) 0))) then bif (!(decide ((gi (rd v5 v7.toNat) 0) = 47))) then some (Ex.ret, (⟨[(0, (V.inl t_byte b0)), (2, (V.bool false))], [], 0, []⟩ : St)) else rounds impl_KeyOk_c impl_KeyOk_L ((loopsIn (bodyOf Try.f138)).getD 0 .skip) k_ (⟨[(0, (V.inl t_byte b0)), (5, (V.inl t_byte v5)), (6, (vi v6)), (7, (vi (w6 (v7 + 1))))], [], 0, []⟩ : St) else rounds impl_KeyOk_c impl_KeyOk_L ((loopsIn (bodyOf Try.f138)).getD 0 .skip) k_ (⟨[(0, (V.inl t_byte b0)), (5, (V.inl t_byte v5)), (6, (vi v6)), (7, (vi (w6 (v7 + 1))))], [], 0, []⟩ : St) else none else some ((Ex.exit 0), (⟨[(0, (V.inl t_byte b0)), (2, V.dead)], [], 0, []⟩ : St))) := by kernel_rfl
    rw [h, impl_KeyOk_l2]
    clear h
    repeat' (first | exact A0 | refine A1 ?_ ?_ | refine A2 fun _ => ?_ | refine A3 fun _ => ?_ | exact A4 (by kernel_rfl) | exact ih _ _ _ _)
theorem impl_KeyOk_lo : LoopsOk impl_KeyOk_c impl_KeyOk_L (bodyOf Try.f138) := by
  refine GoodAll.ok (l := [impl_KeyOk_l2_e]) ?_ rfl
  refine GoodAll.cons 0 (by kernel_rfl) ?_ ?_
  · exact good_of (key := 2) (ss := impl_KeyOk_l2_ss) (F := impl_KeyOk_l2_F) (ix := fun r_ => r_.1) (ps := impl_KeyOk_l2_ps) (fun st => (((sv st 2).I) - ((sv st 3).I)).toNat + 1) fun st h => by
      have q := impl_KeyOk_l2_ok ((((sv st 2).I) - ((sv st 3).I)).toNat + 1) ((sv st 0).L) ((sv st 1).L) ((sv st 2).I) ((sv st 3).I)
      rw [show (⟨[(0, (V.inl t_byte ((sv st 0).L))), (5, (V.inl t_byte ((sv st 1).L))), (6, (vi ((sv st 2).I))), (7, (vi ((sv st 3).I)))], [], 0, []⟩ : St) = st from h] at q
      exact q
  exact GoodAll.nil
def impl_KeyOk_sh (r_ : Bool) : V × List V := ((V.bool r_), [])
theorem impl_KeyOk_e (b : List V) : Agr (wkF [[.dead]] []) impl_KeyOk_sh (impl_KeyOk b) (evalFn impl_KeyOk_c impl_KeyOk_L Try.f138 [(V.inl t_byte b)]) := by
  have h : evalFn impl_KeyOk_c impl_KeyOk_L Try.f138 [(V.inl t_byte b)] = (rcall (impl_KeyOk_l2 (((ln b) - 0).toNat + 1) b b (ln b) 0) fun r82 => bif (Nat.beq r82.1 0) then some ((V.bool r82.2.2), []) else some ((V.bool (impl_within (ln r82.2.1) 1 20)), [])) := by kernel_rfl
  rw [h, impl_KeyOk]
  clear h
  repeat' (first | exact A0 | refine A1 ?_ ?_ | refine A2 fun _ => ?_ | refine A3 fun _ => ?_ | exact A4 (by kernel_rfl))
def impl_KeyOk_A : List S2 := [(.one (.inl t_byte))]
def impl_KeyOk_F (args : List V) : Option (Bool) := impl_KeyOk ((rd args 0).L)
def impl_KeyOk_s (args : List V) : Option (Bool × (V × List V)) := bif argsOk impl_KeyOk_A args then some ((impl_KeyOk_F args).isSome, impl_KeyOk_sh ((impl_KeyOk_F args).getD default)) else none
theorem impl_KeyOk_s_ok : ∀ args r, impl_KeyOk_s args = some (true, r) → SumOk Try.prog tab 138 args r :=
  Base.sum (cfg := impl_KeyOk_c) (F := impl_KeyOk_F) (shr := impl_KeyOk_sh) base impl_KeyOk_c_ok Try.func138 (by kernel_rfl) impl_KeyOk_lo impl_KeyOk_A (by kernel_rfl) [[.dead]] [] (by kernel_rfl) fun args h => by
    have q := impl_KeyOk_e ((rd args 0).L)
    rw [show [(V.inl t_byte ((rd args 0).L))] = args from h] at q
    exact q
def impl_isValue_c : Cfg := ⟨tab, sumsOf [], fun _ => false, fun f => (look [] f).getD [], false, fun _ => false⟩
theorem impl_isValue_c_ok : SumsOk Try.prog tab impl_isValue_c.sums := sums_nil
abbrev impl_isValue_L : Loops := noL
def impl_isValue_sh (r_ : Bool) : V × List V := ((V.bool r_), [])
theorem impl_isValue_e (b : List V) : Tot (wkF [[.dead]] []) impl_isValue_sh (impl_isValue b) (evalFn impl_isValue_c impl_isValue_L Try.f139 [(V.inl t_byte b)]) := by
  have h : evalFn impl_isValue_c impl_isValue_L Try.f139 [(V.inl t_byte b)] = (some ((V.bool (decide ((ln b) ≤ 20))), [])) := by kernel_rfl
  rw [h, impl_isValue]
  clear h
  repeat' (first | refine A5 ?_ ?_ | refine A6 fun _ => ?_ | exact A7 (by kernel_rfl))
def impl_isValue_A : List S2 := [(.one (.inl t_byte))]
def impl_isValue_F (args : List V) : Bool := impl_isValue ((rd args 0).L)
def impl_isValue_s (args : List V) : Option (Bool × (V × List V)) := bif argsOk impl_isValue_A args then some (true, impl_isValue_sh (impl_isValue_F args)) else none
theorem impl_isValue_s_ok : ∀ args r, impl_isValue_s args = some (true, r) → SumOk Try.prog tab 139 args r :=
  Base.sumT (cfg := impl_isValue_c) (F := impl_isValue_F) (shr := impl_isValue_sh) base impl_isValue_c_ok Try.func139 (by kernel_rfl) noLo impl_isValue_A (by kernel_rfl) [[.dead]] [] (by kernel_rfl) fun args h => by
    have q := impl_isValue_e ((rd args 0).L)
    rw [show [(V.inl t_byte ((rd args 0).L))] = args from h] at q
    exact q
def impl_OpOk_c : Cfg := ⟨tab, sumsOf [(90, impl_within_s), (138, impl_KeyOk_s), (139, impl_isValue_s)], fun _ => false, fun f => (look [(90, [none, none, none]), (138, [some t_byte]), (139, [some t_byte])] f).getD [], false, fun _ => false⟩
theorem impl_OpOk_c_ok : SumsOk Try.prog tab impl_OpOk_c.sums := sums_cons f90_en impl_within_s_ok (sums_cons f138_en impl_KeyOk_s_ok (sums_cons f139_en impl_isValue_s_ok (sums_nil)))
abbrev impl_OpOk_L : Loops := noL
def impl_OpOk_sh (r_ : Bool) : V × List V := ((V.bool r_), [])
set_option maxRecDepth 100000 in
theorem impl_OpOk_e (o : V) : Agr (wkF [[.dead]] []) impl_OpOk_sh (impl_OpOk o) (evalFn impl_OpOk_c impl_OpOk_L Try.f111 [(n_laws_Op o)]) := by
  have h : evalFn impl_OpOk_c impl_OpOk_L Try.f111 [(n_laws_Op o)] = (bif (decide ((gi o 0) = 0)) then bif impl_within (gi o 3) 0 0 then bif (decide ((((gl o 1).length : Nat) : Int) = 0)) then some ((V.bool (decide ((((gl o 2).length : Nat) : Int) = 0))), []) else some ((V.bool false), []) else some ((V.bool false), []) else bif (decide ((gi o 0) = 1)) then bif impl_within (gi o 3) 0 0 then rcall (impl_KeyOk (gl o 1)) fun r83 => bif r83 then bif impl_isValue (gl o 2) then some ((V.bool true), []) else some ((V.bool false), []) else some ((V.bool false), []) else some ((V.bool false), []) else bif (decide ((gi o 0) = 2)) then bif impl_within (gi o 3) 0 1000000 then rcall (impl_KeyOk (gl o 1)) fun r84 => bif r84 then bif impl_isValue (gl o 2) then some ((V.bool true), []) else some ((V.bool false), []) else some ((V.bool false), []) else some ((V.bool false), []) else bif (decide ((gi o 0) = 3)) then bif impl_within (gi o 3) 0 0 then rcall (impl_KeyOk (gl o 1)) fun r85 => bif r85 then some ((V.bool (decide ((((gl o 2).length : Nat) : Int) = 0))), []) else some ((V.bool false), []) else some ((V.bool false), []) else bif (decide ((gi o 0) = 4)) then bif impl_within (gi o 3) 0 1 then bif (decide ((((gl o 1).length : Nat) : Int) = 0)) then some ((V.bool (decide ((((gl o 2).length : Nat) : Int) = 0))), []) else some ((V.bool false), []) else some ((V.bool false), []) else bif (decide ((gi o 0) = 5)) then bif impl_within (gi o 3) 1 1000000 then bif (decide ((((gl o 1).length : Nat) : Int) = 0)) then some ((V.bool (decide ((((gl o 2).length : Nat) : Int) = 0))), []) else some ((V.bool false), []) else some ((V.bool false), []) else bif (decide ((gi o 0) = 6)) then bif impl_within (gi o 3) 1 1000000 then rcall (impl_KeyOk (gl o 1)) fun r86 => bif r86 then bif impl_isValue (gl o 2) then some ((V.bool true), []) else some ((V.bool false), []) else some ((V.bool false), []) else some ((V.bool false), []) else bif (decide ((gi o 0) = 7)) then bif impl_within (gi o 3) 1 1000000 then rcall (impl_KeyOk (gl o 1)) fun r87 => bif r87 then some ((V.bool (decide ((((gl o 2).length : Nat) : Int) = 0))), []) else some ((V.bool false), []) else some ((V.bool false), []) else some ((V.bool false), [])) := by kernel_rfl
  rw [h, impl_OpOk]
  clear h
  repeat' (first | exact A0 | refine A1 ?_ ?_ | refine A2 fun _ => ?_ | refine A3 fun _ => ?_ | exact A4 (by kernel_rfl))
def impl_OpOk_A : List S2 := [(.agg q0)]
def impl_OpOk_F (args : List V) : Option (Bool) := impl_OpOk (rd args 0)
def impl_OpOk_s (args : List V) : Option (Bool × (V × List V)) := bif argsOk impl_OpOk_A args then some ((impl_OpOk_F args).isSome, impl_OpOk_sh ((impl_OpOk_F args).getD default)) else none
theorem impl_OpOk_s_ok : ∀ args r, impl_OpOk_s args = some (true, r) → SumOk Try.prog tab 111 args r :=
  Base.sum (cfg := impl_OpOk_c) (F := impl_OpOk_F) (shr := impl_OpOk_sh) base impl_OpOk_c_ok Try.func111 (by kernel_rfl) noLo impl_OpOk_A (by kernel_rfl) [[.dead]] [] (by kernel_rfl) fun args h => by
    have q := impl_OpOk_e (rd args 0)
    rw [show [(n_laws_Op (rd args 0))] = args from h] at q
    exact q
def impl_CmdOk_c : Cfg := ⟨tab, sumsOf [(110, impl_noOp_s), (109, impl_Cmd_same_s), (90, impl_within_s), (111, impl_OpOk_s)], fun _ => false, fun f => (look [(110, []), (109, [none, none]), (90, [none, none, none]), (111, [none])] f).getD [], false, fun _ => false⟩
theorem impl_CmdOk_c_ok : SumsOk Try.prog tab impl_CmdOk_c.sums := sums_cons f110_en impl_noOp_s_ok (sums_cons f109_en impl_Cmd_same_s_ok (sums_cons f90_en impl_within_s_ok (sums_cons f111_en impl_OpOk_s_ok (sums_nil))))
abbrev impl_CmdOk_L : Loops := noL
def impl_CmdOk_sh (r_ : Bool) : V × List V := ((V.bool r_), [])
theorem impl_CmdOk_e (c : V) : Agr (wkF [[.dead]] []) impl_CmdOk_sh (impl_CmdOk c) (evalFn impl_CmdOk_c impl_CmdOk_L Try.f68 [(n_laws_Cmd c)]) := by
  have h : evalFn impl_CmdOk_c impl_CmdOk_L Try.f68 [(n_laws_Cmd c)] = (bif impl_Cmd_same (n_laws_Cmd c) (n_laws_Cmd impl_noOp) then some ((V.bool true), []) else bif impl_within (gi c 0) 0 3 then bif impl_within (gi c 1) 1 1000000 then rcall (impl_OpOk (V.agg [(vi (gi c 2)), (V.inl t_byte (gl c 3)), (V.inl t_byte (gl c 4)), (vi (gi c 5))])) fun r88 => some ((V.bool r88), []) else some ((V.bool false), []) else some ((V.bool false), [])) := by kernel_rfl
  rw [h, impl_CmdOk]
  clear h
  repeat' (first | exact A0 | refine A1 ?_ ?_ | refine A2 fun _ => ?_ | refine A3 fun _ => ?_ | exact A4 (by kernel_rfl))
def impl_CmdOk_A : List S2 := [(.agg q1)]
def impl_CmdOk_F (args : List V) : Option (Bool) := impl_CmdOk (rd args 0)
def impl_CmdOk_s (args : List V) : Option (Bool × (V × List V)) := bif argsOk impl_CmdOk_A args then some ((impl_CmdOk_F args).isSome, impl_CmdOk_sh ((impl_CmdOk_F args).getD default)) else none
theorem impl_CmdOk_s_ok : ∀ args r, impl_CmdOk_s args = some (true, r) → SumOk Try.prog tab 68 args r :=
  Base.sum (cfg := impl_CmdOk_c) (F := impl_CmdOk_F) (shr := impl_CmdOk_sh) base impl_CmdOk_c_ok Try.func68 (by kernel_rfl) noLo impl_CmdOk_A (by kernel_rfl) [[.dead]] [] (by kernel_rfl) fun args h => by
    have q := impl_CmdOk_e (rd args 0)
    rw [show [(n_laws_Cmd (rd args 0))] = args from h] at q
    exact q
def impl_ItemOk_c : Cfg := ⟨tab, sumsOf [(94, impl_isTerm_s), (68, impl_CmdOk_s)], fun _ => false, fun f => (look [(94, [none]), (68, [none])] f).getD [], false, fun _ => false⟩
theorem impl_ItemOk_c_ok : SumsOk Try.prog tab impl_ItemOk_c.sums := sums_cons f94_en impl_isTerm_s_ok (sums_cons f68_en impl_CmdOk_s_ok (sums_nil))
abbrev impl_ItemOk_L : Loops := noL
def impl_ItemOk_sh (r_ : Bool) : V × List V := ((V.bool r_), [])
theorem impl_ItemOk_e (x : V) : Agr (wkF [[.dead]] []) impl_ItemOk_sh (impl_ItemOk x) (evalFn impl_ItemOk_c impl_ItemOk_L Try.f91 [(n_impl_Item x)]) := by
  have h : evalFn impl_ItemOk_c impl_ItemOk_L Try.f91 [(n_impl_Item x)] = (bif impl_isTerm (gi x 0) then rcall (impl_CmdOk (V.agg [(vi (gi x 1)), (vi (gi x 2)), (vi (gi x 3)), (V.inl t_byte (gl x 4)), (V.inl t_byte (gl x 5)), (vi (gi x 6))])) fun r89 => some ((V.bool r89), []) else some ((V.bool false), [])) := by kernel_rfl
  rw [h, impl_ItemOk]
  clear h
  repeat' (first | exact A0 | refine A1 ?_ ?_ | refine A2 fun _ => ?_ | refine A3 fun _ => ?_ | exact A4 (by kernel_rfl))
def impl_ItemOk_A : List S2 := [(.agg q2)]
def impl_ItemOk_F (args : List V) : Option (Bool) := impl_ItemOk (rd args 0)
def impl_ItemOk_s (args : List V) : Option (Bool × (V × List V)) := bif argsOk impl_ItemOk_A args then some ((impl_ItemOk_F args).isSome, impl_ItemOk_sh ((impl_ItemOk_F args).getD default)) else none
theorem impl_ItemOk_s_ok : ∀ args r, impl_ItemOk_s args = some (true, r) → SumOk Try.prog tab 91 args r :=
  Base.sum (cfg := impl_ItemOk_c) (F := impl_ItemOk_F) (shr := impl_ItemOk_sh) base impl_ItemOk_c_ok Try.func91 (by kernel_rfl) noLo impl_ItemOk_A (by kernel_rfl) [[.dead]] [] (by kernel_rfl) fun args h => by
    have q := impl_ItemOk_e (rd args 0)
    rw [show [(n_impl_Item (rd args 0))] = args from h] at q
    exact q
def slices_Index_bool_c : Cfg := ⟨tab, sumsOf [], fun _ => false, fun f => (look [] f).getD [], false, fun _ => false⟩
theorem slices_Index_bool_c_ok : SumsOk Try.prog tab slices_Index_bool_c.sums := sums_nil
def slices_Index_bool_l2_F (st : St) : Option (Nat × Int) := slices_Index_bool_l2 ((((sv st 2).I) - ((sv st 3).I)).toNat + 1) ((sv st 0).L) ((sv st 1).B) ((sv st 2).I) ((sv st 3).I)
def slices_Index_bool_l2_ps (r_ : Nat × Int) : List (Ex × St) := [(Ex.ret, (⟨[(4, (vi r_.2))], [], 0, []⟩ : St)), ((Ex.exit 0), (⟨[(4, V.dead)], [], 0, []⟩ : St))]
def slices_Index_bool_l2_ss : SS := ⟨[(0, (.one (.inl t_bool))), (1, (.one .bool)), (7, (.one (.int .i64))), (8, (.one (.int .i64)))], [], 0, []⟩
def slices_Index_bool_l2_e : LE := ⟨2, slices_Index_bool_l2_ss, fun st => Out.tst (slices_Index_bool_l2_F st).isSome (brs ((fun r_ => r_.1) ((slices_Index_bool_l2_F st).getD default)) 0 (slices_Index_bool_l2_ps ((slices_Index_bool_l2_F st).getD default)))⟩
def slices_Index_bool_L : Loops := ⟨fun k => (look [(2, [0, 1, 7, 8])] k).getD [], fun k => (look [] k).getD [], fun k => (look [(2, [4])] k).getD [], runL [slices_Index_bool_l2_e]⟩
theorem slices_Index_bool_l2_ok (k_ : Nat) : ∀ (s0 : List V) (v1 : Bool) (v7 : Int) (v8 : Int), Agr id (fun r_ => pick (r_.1) 0 (slices_Index_bool_l2_ps r_)) (slices_Index_bool_l2 k_ s0 v1 v7 v8) (rounds slices_Index_bool_c slices_Index_bool_L ((loopsIn (bodyOf Try.f130)).getD 0 .skip) k_ (⟨[(0, (V.inl t_bool s0)), (1, (V.bool v1)), (7, (vi v7)), (8, (vi v8))], [], 0, []⟩ : St)) := by
  induction k_ with
  | zero => intros; exact A0
  | succ k_ ih =>
    intro s0 v1 v7 v8
    have h : rounds slices_Index_bool_c slices_Index_bool_L ((loopsIn (bodyOf Try.f130)).getD 0 .skip) (k_ + 1) (⟨[(0, (V.inl t_bool s0)), (1, (V.bool v1)), (7, (vi v7)), (8, (vi v8))], [], 0, []⟩ : St) = (bif (decide (v8 < v7)) then bif (idxOk v8 s0.length) then bif (v1 == (gb (rd s0 v8.toNat) 0)) then some (Ex.ret, (⟨[(4, (vi v8))], [], 0, []⟩ : St)) else rounds slices_Index_bool_c slices_Index_bool_L ((loopsIn (bodyOf Try.f130)).getD 0 .skip) k_ (⟨[(0, (V.inl t_bool s0)), (1, (V.bool v1)), (7, (vi v7)), (8, (vi (w6 (v8 + 1))))], [], 0, []⟩ : St) else none else some ((Ex.exit 0), (⟨[(4, V.dead)], [], 0, []⟩ : St))) := by kernel_rfl
    rw [h, slices_Index_bool_l2]
    clear h
    repeat' (first | exact A0 | refine A1 ?_ ?_ | refine A2 fun _ => ?_ | refine A3 fun _ => ?_ | exact A4 (by kernel_rfl) | exact ih _ _ _ _)
theorem slices_Index_bool_lo : LoopsOk slices_Index_bool_c slices_Index_bool_L (bodyOf Try.f130) := by
  refine GoodAll.ok (l := [slices_Index_bool_l2_e]) ?_ rfl
  refine GoodAll.cons 0 (by kernel_rfl) ?_ ?_
  · exact good_of (key := 2) (ss := slices_Index_bool_l2_ss) (F := slices_Index_bool_l2_F) (ix := fun r_ => r_.1) (ps := slices_Index_bool_l2_ps) (fun st => (((sv st 2).I) - ((sv st 3).I)).toNat + 1) fun st h => by
      have q := slices_Index_bool_l2_ok ((((sv st 2).I) - ((sv st 3).I)).toNat + 1) ((sv st 0).L) ((sv st 1).B) ((sv st 2).I) ((sv st 3).I)
      rw [show (⟨[(0, (V.inl t_bool ((sv st 0).L))), (1, (V.bool ((sv st 1).B))), (7, (vi ((sv st 2).I))), (8, (vi ((sv st 3).I)))], [], 0, []⟩ : St) = st from h] at q
      exact q
  exact GoodAll.nil
def slices_Index_bool_sh (r_ : Int) : V × List V := ((vi r_), [])
theorem slices_Index_bool_e (s : List V) (v : Bool) : Agr (wkF [[.dead]] []) slices_Index_bool_sh (slices_Index_bool s v) (evalFn slices_Index_bool_c slices_Index_bool_L Try.f130 [(V.inl t_bool s), (V.bool v)]) := by
  have h : evalFn slices_Index_bool_c slices_Index_bool_L Try.f130 [(V.inl t_bool s), (V.bool v)] = (rcall (slices_Index_bool_l2 (((ln s) - 0).toNat + 1) s v (ln s) 0) fun r92 => bif (Nat.beq r92.1 0) then some ((vi r92.2), []) else some ((vi (-1)), [])) := by kernel_rfl
  rw [h, slices_Index_bool]
  clear h
  repeat' (first | exact A0 | refine A1 ?_ ?_ | refine A2 fun _ => ?_ | refine A3 fun _ => ?_ | exact A4 (by kernel_rfl))
def slices_Index_bool_A : List S2 := [(.one (.inl t_bool)), (.one .bool)]
def slices_Index_bool_F (args : List V) : Option (Int) := slices_Index_bool ((rd args 0).L) ((rd args 1).B)
def slices_Index_bool_s (args : List V) : Option (Bool × (V × List V)) := bif argsOk slices_Index_bool_A args then some ((slices_Index_bool_F args).isSome, slices_Index_bool_sh ((slices_Index_bool_F args).getD default)) else none
theorem slices_Index_bool_s_ok : ∀ args r, slices_Index_bool_s args = some (true, r) → SumOk Try.prog tab 130 args r :=
  Base.sum (cfg := slices_Index_bool_c) (F := slices_Index_bool_F) (shr := slices_Index_bool_sh) base slices_Index_bool_c_ok Try.func130 (by kernel_rfl) slices_Index_bool_lo slices_Index_bool_A (by kernel_rfl) [[.dead]] [] (by kernel_rfl) fun args h => by
    have q := slices_Index_bool_e ((rd args 0).L) ((rd args 1).B)
    rw [show [(V.inl t_bool ((rd args 0).L)), (V.bool ((rd args 1).B))] = args from h] at q
    exact q
end Go.Eng.R
open Go Go.Eng Go.Proofs
namespace Go.Eng.R
def slices_Contains_bool_c : Cfg := ⟨tab, sumsOf [(130, slices_Index_bool_s)], fun _ => false, fun f => (look [(130, [some t_bool, none])] f).getD [], false, fun _ => false⟩
theorem slices_Contains_bool_c_ok : SumsOk Try.prog tab slices_Contains_bool_c.sums := sums_cons f130_en slices_Index_bool_s_ok (sums_nil)
abbrev slices_Contains_bool_L : Loops := noL
def slices_Contains_bool_sh (r_ : Bool) : V × List V := ((V.bool r_), [])
theorem slices_Contains_bool_e (s : List V) (v : Bool) : Agr (wkF [[.dead]] []) slices_Contains_bool_sh (slices_Contains_bool s v) (evalFn slices_Contains_bool_c slices_Contains_bool_L Try.f92 [(V.inl t_bool s), (V.bool v)]) := by
  have h : evalFn slices_Contains_bool_c slices_Contains_bool_L Try.f92 [(V.inl t_bool s), (V.bool v)] = (rcall (slices_Index_bool s v) fun r93 => some ((V.bool (decide ((0 : Int) ≤ r93))), [])) := by kernel_rfl
  rw [h, slices_Contains_bool]
  clear h
  repeat' (first | exact A0 | refine A1 ?_ ?_ | refine A2 fun _ => ?_ | refine A3 fun _ => ?_ | exact A4 (by kernel_rfl))
def slices_Contains_bool_A : List S2 := [(.one (.inl t_bool)), (.one .bool)]
def slices_Contains_bool_F (args : List V) : Option (Bool) := slices_Contains_bool ((rd args 0).L) ((rd args 1).B)
def slices_Contains_bool_s (args : List V) : Option (Bool × (V × List V)) := bif argsOk slices_Contains_bool_A args then some ((slices_Contains_bool_F args).isSome, slices_Contains_bool_sh ((slices_Contains_bool_F args).getD default)) else none
theorem slices_Contains_bool_s_ok : ∀ args r, slices_Contains_bool_s args = some (true, r) → SumOk Try.prog tab 92 args r :=
  Base.sum (cfg := slices_Contains_bool_c) (F := slices_Contains_bool_F) (shr := slices_Contains_bool_sh) base slices_Contains_bool_c_ok Try.func92 (by kernel_rfl) noLo slices_Contains_bool_A (by kernel_rfl) [[.dead]] [] (by kernel_rfl) fun args h => by
    have q := slices_Contains_bool_e ((rd args 0).L) ((rd args 1).B)
    rw [show [(V.inl t_bool ((rd args 0).L)), (V.bool ((rd args 1).B))] = args from h] at q
    exact q
def impl_NodeOk_c : Cfg := ⟨tab, sumsOf [(89, impl_isServer_s), (90, impl_within_s), (91, impl_ItemOk_s), (92, slices_Contains_bool_s)], fun _ => false, fun f => (look [(89, [none, none]), (90, [none, none, none]), (91, [none]), (92, [some t_bool, none])] f).getD [], false, fun _ => false⟩
theorem impl_NodeOk_c_ok : SumsOk Try.prog tab impl_NodeOk_c.sums := sums_cons f89_en impl_isServer_s_ok (sums_cons f90_en impl_within_s_ok (sums_cons f91_en impl_ItemOk_s_ok (sums_cons f92_en slices_Contains_bool_s_ok (sums_nil))))
def impl_NodeOk_l5_F (st : St) : Option (Nat × Int × Bool × V) := impl_NodeOk_l5 ((((sv st 4).I) - ((sv st 5).I)).toNat + 1) ((sv st 0).I) ((sv st 2).I) ((sv st 3).L) ((sv st 4).I) ((sv st 5).I) (bc st 0)
def impl_NodeOk_l5_ps (r_ : Nat × Int × Bool × V) : List (Ex × St) := [(Ex.ret, (⟨[(1, (vi r_.2.1)), (2, (V.bp 0 0)), (4, (V.bool r_.2.2.1))], [(0, some (Blk.box t_impl_Node (l12 r_.2.2.2)))], 1, []⟩ : St)), ((Ex.exit 0), (⟨[(1, (vi r_.2.1)), (2, (V.bp 0 0)), (4, V.dead)], [(0, some (Blk.box t_impl_Node (l12 r_.2.2.2)))], 1, []⟩ : St))]
def impl_NodeOk_l5_ss : SS := ⟨[(1, (.one (.int .i64))), (2, (.one (.bp 0 0))), (5, (.one (.int .i64))), (43, (.one (.inl t_impl_Item))), (44, (.one (.int .i64))), (45, (.one (.int .i64)))], [(.box t_impl_Node q13)], 1, []⟩
def impl_NodeOk_l5_e : LE := ⟨5, impl_NodeOk_l5_ss, fun st => Out.tst (impl_NodeOk_l5_F st).isSome (brs ((fun r_ => r_.1) ((impl_NodeOk_l5_F st).getD default)) 0 (impl_NodeOk_l5_ps ((impl_NodeOk_l5_F st).getD default)))⟩
def impl_NodeOk_l16_F (st : St) : Option (Nat × Bool) := impl_NodeOk_l16 ((((sv st 1).I) - ((sv st 2).I)).toNat + 1) ((sv st 1).I) ((sv st 2).I) (bc st 0)
def impl_NodeOk_l16_ps (r_ : Nat × Bool) : List (Ex × St) := [(Ex.ret, (⟨[(4, (V.bool r_.2))], [], 0, []⟩ : St)), ((Ex.exit 2), (⟨[(4, V.dead)], [], 0, []⟩ : St))]
def impl_NodeOk_l16_ss : SS := ⟨[(2, (.one (.bp 0 0))), (141, (.one (.int .i64))), (142, (.one (.int .i64)))], [(.box t_impl_Node q13)], 1, []⟩
def impl_NodeOk_l16_e : LE := ⟨16, impl_NodeOk_l16_ss, fun st => Out.tst (impl_NodeOk_l16_F st).isSome (brs ((fun r_ => r_.1) ((impl_NodeOk_l16_F st).getD default)) 0 (impl_NodeOk_l16_ps ((impl_NodeOk_l16_F st).getD default)))⟩
def impl_NodeOk_L : Loops := ⟨fun k => (look [(5, [1, 2, 5, 43, 44, 45]), (16, [2, 141, 142])] k).getD [], fun k => (look [] k).getD [], fun k => (look [(5, [1, 2, 4]), (16, [4])] k).getD [], runL [impl_NodeOk_l5_e, impl_NodeOk_l16_e]⟩
theorem impl_NodeOk_l5_ok (k_ : Nat) : ∀ (servers1 : Int) (term5 : Int) (v43 : List V) (v44 : Int) (v45 : Int) (b0 : V), Agr id (fun r_ => pick (r_.1) 0 (impl_NodeOk_l5_ps r_)) (impl_NodeOk_l5 k_ servers1 term5 v43 v44 v45 b0) (rounds impl_NodeOk_c impl_NodeOk_L ((loopsIn (bodyOf Try.f35)).getD 0 .skip) k_ (⟨[(1, (vi servers1)), (2, (V.bp 0 0)), (5, (vi term5)), (43, (V.inl t_impl_Item v43)), (44, (vi v44)), (45, (vi v45))], [(0, some (Blk.box t_impl_Node (l12 b0)))], 1, []⟩ : St)) := by
  induction k_ with
  | zero => intros; exact A0
  | succ k_ ih =>
    intro servers1 term5 v43 v44 v45 b0
    have h : rounds impl_NodeOk_c impl_NodeOk_L ((loopsIn (bodyOf Try.f35)).getD 0 .skip) (k_ + 1) (⟨[(1, (vi servers1)), (2, (V.bp 0 0)), (5, (vi term5)), (43, (V.inl t_impl_Item v43)), (44, (vi v44)), (45, (vi v45))], [(0, some (Blk.box t_impl_Node (l12 b0)))], 1, []⟩ : St) = (bif (decide (v45 < v44)) then bif (idxOk v45 v43.length) then rcall (impl_ItemOk (n_impl_Item (rd v43 v45.toNat))) fun r90 => bif (!r90) then some (Ex.ret, (⟨[(1, (vi servers1)), (2, (V.bp 0 0)), (4, (V.bool false))], [(0, some (Blk.box t_impl_Node (l12 b0)))], 1, []⟩ : St)) else bif (!(impl_within (gi (rd v43 v45.toNat) 0) term5 (gi b0 1))) then some (Ex.ret, (⟨[(1, (vi servers1)), (2, (V.bp 0 0)), (4, (V.bool false))], [(0, some (Blk.box t_impl_Node (l12 b0)))], 1, []⟩ : St)) else rounds impl_NodeOk_c impl_NodeOk_L ((loopsIn (bodyOf Try.f35)).getD 0 .skip) k_ (⟨[(1, (vi servers1)), (2, (V.bp 0 0)), (5, (vi (gi (rd v43 v45.toNat) 0))), (43, (V.inl t_impl_Item v43)), (44, (vi v44)), (45, (vi (w6 (v45 + 1))))], [(0, some (Blk.box t_impl_Node (l12 b0)))], 1, []⟩ : St) else none else some ((Ex.exit 0), (⟨[(1, (vi servers1)), (2, (V.bp 0 0)), (4, V.dead)], [(0, some (Blk.box t_impl_Node (l12 b0)))], 1, []⟩ : St))) := by kernel_rfl
    rw [h, impl_NodeOk_l5]
    clear h
    repeat' (first | exact A0 | refine A1 ?_ ?_ | refine A2 fun _ => ?_ | refine A3 fun _ => ?_ | exact A4 (by kernel_rfl) | exact ih _ _ _ _ _ _)
set_option maxRecDepth 100000 in
theorem impl_NodeOk_l16_ok (k_ : Nat) : ∀ (v141 : Int) (v142 : Int) (b0 : V), Agr id (fun r_ => pick (r_.1) 0 (impl_NodeOk_l16_ps r_)) (impl_NodeOk_l16 k_ v141 v142 b0) (rounds impl_NodeOk_c impl_NodeOk_L ((loopsIn (bodyOf Try.f35)).getD 1 .skip) k_ (⟨[(2, (V.bp 0 0)), (141, (vi v141)), (142, (vi v142))], [(0, some (Blk.box t_impl_Node (l12 b0)))], 1, []⟩ : St)) := by
  induction k_ with
  | zero => intros; exact A0
  | succ k_ ih =>
    intro v141 v142 b0
    have h : rounds impl_NodeOk_c impl_NodeOk_L ((loopsIn (bodyOf Try.f35)).getD 1 .skip) (k_ + 1) (⟨[(2, (V.bp 0 0)), (141, (vi v141)), (142, (vi v142))], [(0, some (Blk.box t_impl_Node (l12 b0)))], 1, []⟩ : St) = (bif (decide (v142 < v141)) then bif (decide ((gi b0 5) = 2)) then bif (idxOk v142 ((gl b0 9).length)) then bif (!(impl_within (gi (rd (gl b0 9) v142.toNat) 0) 1 (w6 ((((gl b0 3).length : Nat) : Int) + 1)))) then some (Ex.ret, (⟨[(4, (V.bool false))], [], 0, []⟩ : St)) else bif (idxOk v142 ((gl b0 10).length)) then bif (!(impl_within (gi (rd (gl b0 10) v142.toNat) 0) 0 (((gl b0 3).length : Nat) : Int))) then some (Ex.ret, (⟨[(4, (V.bool false))], [], 0, []⟩ : St)) else bif (!(decide ((gi b0 5) = 2))) then bif (idxOk v142 ((gl b0 9).length)) then bif (!(decide ((gi (rd (gl b0 9) v142.toNat) 0) = 0))) then some (Ex.ret, (⟨[(4, (V.bool false))], [], 0, []⟩ : St)) else bif (idxOk v142 ((gl b0 10).length)) then bif (!(decide ((gi (rd (gl b0 10) v142.toNat) 0) = 0))) then some (Ex.ret, (⟨[(4, (V.bool false))], [], 0, []⟩ : St)) else rounds impl_NodeOk_c impl_NodeOk_L ((loopsIn (bodyOf Try.f35)).getD 1 .skip) k_ (⟨[(2, (V.bp 0 0)), (141, (vi v141)), (142, (vi (w6 (v142 + 1))))], [(0, some (Blk.box t_impl_Node (l12 b0)))], 1, []⟩ : St) else none else none else rounds impl_NodeOk_c impl_NodeOk_L ((loopsIn (bodyOf Try.f35)).getD 1 .skip) k_ (⟨[(2, (V.bp 0 0)), (141, (vi v141)), (142, (vi (w6 (v142 + 1))))], [(0, some (Blk.box t_impl_Node (l12 b0)))], 1, []⟩ : St) else none else none else bif (!(decide ((gi b0 5) = 2))) then bif (idxOk v142 ((gl b0 9).length)) then bif (!(decide ((gi (rd (gl b0 9) v142.toNat) 0) = 0))) then some (Ex.ret, (⟨[(4, (V.bool false))], [], 0, []⟩ : St)) else bif (idxOk v142 ((gl b0 10).length)) then bif (!(decide ((gi (rd (gl b0 10) v142.toNat) 0) = 0))) then some (Ex.ret, (⟨[(4, (V.bool false))], [], 0, []⟩ : St)) else rounds impl_NodeOk_c impl_NodeOk_L ((loopsIn (bodyOf Try.f35)).getD 1 .skip) k_ (⟨[(2, (V.bp 0 0)), (141, (vi v141)), (142, (vi (w6 (v142 + 1))))], [(0, some (Blk.box t_impl_Node (l12 b0)))], 1, []⟩ : St) else none else none else rounds impl_NodeOk_c impl_NodeOk_L ((loopsIn (bodyOf Try.f35)).getD 1 .skip) k_ (⟨[(2, (V.bp 0 0)), (141, (vi v141)), (142, (vi (w6 (v142 + 1))))], [(0, some (Blk.box t_impl_Node (l12 b0)))], 1, []⟩ : St) else some ((Ex.exit 2), (⟨[(4, V.dead)], [], 0, []⟩ : St))) := by kernel_rfl
    rw [h, impl_NodeOk_l16]
    clear h
    repeat' (first | exact A0 | refine A1 ?_ ?_ | refine A2 fun _ => ?_ | refine A3 fun _ => ?_ | exact A4 (by kernel_rfl) | exact ih _ _ _)
theorem impl_NodeOk_lo : LoopsOk impl_NodeOk_c impl_NodeOk_L (bodyOf Try.f35) := by
  refine GoodAll.ok (l := [impl_NodeOk_l5_e, impl_NodeOk_l16_e]) ?_ rfl
  refine GoodAll.cons 0 (by kernel_rfl) ?_ ?_
  · exact good_of (key := 5) (ss := impl_NodeOk_l5_ss) (F := impl_NodeOk_l5_F) (ix := fun r_ => r_.1) (ps := impl_NodeOk_l5_ps) (fun st => (((sv st 4).I) - ((sv st 5).I)).toNat + 1) fun st h => by
      have q := impl_NodeOk_l5_ok ((((sv st 4).I) - ((sv st 5).I)).toNat + 1) ((sv st 0).I) ((sv st 2).I) ((sv st 3).L) ((sv st 4).I) ((sv st 5).I) (bc st 0)
      rw [show (⟨[(1, (vi ((sv st 0).I))), (2, (V.bp 0 0)), (5, (vi ((sv st 2).I))), (43, (V.inl t_impl_Item ((sv st 3).L))), (44, (vi ((sv st 4).I))), (45, (vi ((sv st 5).I)))], [(0, some (Blk.box t_impl_Node (l12 (bc st 0))))], 1, []⟩ : St) = st from h] at q
      exact q
  refine GoodAll.cons 1 (by kernel_rfl) ?_ ?_
  · exact good_of (key := 16) (ss := impl_NodeOk_l16_ss) (F := impl_NodeOk_l16_F) (ix := fun r_ => r_.1) (ps := impl_NodeOk_l16_ps) (fun st => (((sv st 1).I) - ((sv st 2).I)).toNat + 1) fun st h => by
      have q := impl_NodeOk_l16_ok ((((sv st 1).I) - ((sv st 2).I)).toNat + 1) ((sv st 1).I) ((sv st 2).I) (bc st 0)
      rw [show (⟨[(2, (V.bp 0 0)), (141, (vi ((sv st 1).I))), (142, (vi ((sv st 2).I)))], [(0, some (Blk.box t_impl_Node (l12 (bc st 0))))], 1, []⟩ : St) = st from h] at q
      exact q
  exact GoodAll.nil
def impl_NodeOk_sh (r_ : Bool) : V × List V := ((V.bool r_), [])
set_option maxRecDepth 100000 in
theorem impl_NodeOk_e (n : V) (servers : Int) : Agr (wkF [[.dead]] []) impl_NodeOk_sh (impl_NodeOk n servers) (evalFn impl_NodeOk_c impl_NodeOk_L Try.f35 [(n_impl_Node n), (vi servers)]) := by
  have h : evalFn impl_NodeOk_c impl_NodeOk_L Try.f35 [(n_impl_Node n), (vi servers)] = (bif (!(impl_isServer (gi n 0) servers)) then some ((V.bool false), []) else bif (!(impl_within (gi n 1) 0 100000)) then some ((V.bool false), []) else bif (!(impl_within (gi n 2) (-1) (w6 (servers - 1)))) then some ((V.bool false), []) else bif (!(impl_within (gi n 6) (-1) (w6 (servers - 1)))) then some ((V.bool false), []) else bif (decide ((400 : Int) < (((gl n 3).length : Nat) : Int))) then some ((V.bool false), []) else rcall (impl_NodeOk_l5 (((((gl n 3).length : Nat) : Int) - 0).toNat + 1) servers 1 (gl n 3) (((gl n 3).length : Nat) : Int) 0 (n_impl_Node n)) fun r91 => bif (Nat.beq r91.1 0) then some ((V.bool r91.2.2.1), []) else bif (!(impl_within (gi r91.2.2.2 4) 0 (((gl r91.2.2.2 3).length : Nat) : Int))) then some ((V.bool false), []) else bif (!(impl_within (gi r91.2.2.2 5) 0 2)) then some ((V.bool false), []) else bif (!(impl_within (gi r91.2.2.2 7) 0 20)) then some ((V.bool false), []) else bif (!(decide ((((gl r91.2.2.2 8).length : Nat) : Int) = r91.2.1))) then some ((V.bool false), []) else bif (!(decide ((((gl r91.2.2.2 9).length : Nat) : Int) = r91.2.1))) then some ((V.bool false), []) else bif (!(decide ((((gl r91.2.2.2 10).length : Nat) : Int) = r91.2.1))) then some ((V.bool false), []) else bif (decide ((gi r91.2.2.2 5) = 0)) then rcall (slices_Contains_bool (gl r91.2.2.2 8) true) fun r94 => bif r94 then some ((V.bool false), []) else bif (!(decide ((gi r91.2.2.2 5) = 0))) then bif (decide ((gi r91.2.2.2 1) < 1)) then some ((V.bool false), []) else bif (!(decide ((gi r91.2.2.2 2) = (gi r91.2.2.2 0)))) then some ((V.bool false), []) else bif (decide ((gi r91.2.2.2 5) = 2)) then bif (!(decide ((gi r91.2.2.2 6) = (gi r91.2.2.2 0)))) then some ((V.bool false), []) else rcall (impl_NodeOk_l16 ((r91.2.1 - 0).toNat + 1) r91.2.1 0 (n_impl_Node r91.2.2.2)) fun r95 => bif (Nat.beq r95.1 0) then some ((V.bool r95.2), []) else some ((V.bool true), []) else rcall (impl_NodeOk_l16 ((r91.2.1 - 0).toNat + 1) r91.2.1 0 (n_impl_Node r91.2.2.2)) fun r96 => bif (Nat.beq r96.1 0) then some ((V.bool r96.2), []) else some ((V.bool true), []) else bif (decide ((gi r91.2.2.2 5) = 2)) then bif (!(decide ((gi r91.2.2.2 6) = (gi r91.2.2.2 0)))) then some ((V.bool false), []) else rcall (impl_NodeOk_l16 ((r91.2.1 - 0).toNat + 1) r91.2.1 0 (n_impl_Node r91.2.2.2)) fun r97 => bif (Nat.beq r97.1 0) then some ((V.bool r97.2), []) else some ((V.bool true), []) else rcall (impl_NodeOk_l16 ((r91.2.1 - 0).toNat + 1) r91.2.1 0 (n_impl_Node r91.2.2.2)) fun r98 => bif (Nat.beq r98.1 0) then some ((V.bool r98.2), []) else some ((V.bool true), []) else bif (!(decide ((gi r91.2.2.2 5) = 0))) then bif (decide ((gi r91.2.2.2 1) < 1)) then some ((V.bool false), []) else bif (!(decide ((gi r91.2.2.2 2) = (gi r91.2.2.2 0)))) then some ((V.bool false), []) else bif (decide ((gi r91.2.2.2 5) = 2)) then bif (!(decide ((gi r91.2.2.2 6) = (gi r91.2.2.2 0)))) then some ((V.bool false), []) else rcall (impl_NodeOk_l16 ((r91.2.1 - 0).toNat + 1) r91.2.1 0 (n_impl_Node r91.2.2.2)) fun r99 => bif (Nat.beq r99.1 0) then some ((V.bool r99.2), []) else some ((V.bool true), []) else rcall (impl_NodeOk_l16 ((r91.2.1 - 0).toNat + 1) r91.2.1 0 (n_impl_Node r91.2.2.2)) fun r100 => bif (Nat.beq r100.1 0) then some ((V.bool r100.2), []) else some ((V.bool true), []) else bif (decide ((gi r91.2.2.2 5) = 2)) then bif (!(decide ((gi r91.2.2.2 6) = (gi r91.2.2.2 0)))) then some ((V.bool false), []) else rcall (impl_NodeOk_l16 ((r91.2.1 - 0).toNat + 1) r91.2.1 0 (n_impl_Node r91.2.2.2)) fun r101 => bif (Nat.beq r101.1 0) then some ((V.bool r101.2), []) else some ((V.bool true), []) else rcall (impl_NodeOk_l16 ((r91.2.1 - 0).toNat + 1) r91.2.1 0 (n_impl_Node r91.2.2.2)) fun r102 => bif (Nat.beq r102.1 0) then some ((V.bool r102.2), []) else some ((V.bool true), [])) := by kernel_rfl
  rw [h, impl_NodeOk]
  clear h
  repeat' (first | exact A0 | refine A1 ?_ ?_ | refine A2 fun _ => ?_ | refine A3 fun _ => ?_ | exact A4 (by kernel_rfl))
def impl_NodeOk_A : List S2 := [(.agg q13), (.one (.int .i64))]
def impl_NodeOk_F (args : List V) : Option (Bool) := impl_NodeOk (rd args 0) ((rd args 1).I)
def impl_NodeOk_s (args : List V) : Option (Bool × (V × List V)) := bif argsOk impl_NodeOk_A args then some ((impl_NodeOk_F args).isSome, impl_NodeOk_sh ((impl_NodeOk_F args).getD default)) else none
theorem impl_NodeOk_s_ok : ∀ args r, impl_NodeOk_s args = some (true, r) → SumOk Try.prog tab 35 args r :=
  Base.sum (cfg := impl_NodeOk_c) (F := impl_NodeOk_F) (shr := impl_NodeOk_sh) base impl_NodeOk_c_ok Try.func35 (by kernel_rfl) impl_NodeOk_lo impl_NodeOk_A (by kernel_rfl) [[.dead]] [] (by kernel_rfl) fun args h => by
    have q := impl_NodeOk_e (rd args 0) ((rd args 1).I)
    rw [show [(n_impl_Node (rd args 0)), (vi ((rd args 1).I))] = args from h] at q
    exact q
def slices_Clone_byte_c : Cfg := ⟨tab, sumsOf [], fun _ => false, fun f => (look [] f).getD [], false, fun _ => false⟩
theorem slices_Clone_byte_c_ok : SumsOk Try.prog tab slices_Clone_byte_c.sums := sums_nil
abbrev slices_Clone_byte_L : Loops := noL
def slices_Clone_byte_sh (r_ : List V) : V × List V := ((V.rr t_byte true r_), [])
theorem slices_Clone_byte_e1 (s : List V) : Agr (wkF [[(.rr t_byte true)]] []) slices_Clone_byte_sh (slices_Clone_byte s) (evalFn slices_Clone_byte_c slices_Clone_byte_L Try.f144 [(V.nn t_byte s)]) := by
  have h : evalFn slices_Clone_byte_c slices_Clone_byte_L Try.f144 [(V.nn t_byte s)] = (bif ((roomy (0 + s.length) 1) && true) then some ((V.rr t_byte true s), []) else none) := by kernel_rfl
  rw [h, slices_Clone_byte]
  clear h
  repeat' (first | exact A0 | refine A1 ?_ ?_ | refine A2 fun _ => ?_ | refine A3 fun _ => ?_ | exact A4 (by kernel_rfl))
theorem slices_Clone_byte_e2 : Agr (wkF [[(.rr t_byte true)]] []) slices_Clone_byte_sh (slices_Clone_byte []) (evalFn slices_Clone_byte_c slices_Clone_byte_L Try.f144 [(V.nl t_byte)]) := by
  have h : evalFn slices_Clone_byte_c slices_Clone_byte_L Try.f144 [(V.nl t_byte)] = (some ((V.nil t_byte), [])) := by kernel_rfl
  rw [h, slices_Clone_byte]
  clear h
  intro r h; revert h; simp only [List.length_nil]; intro h; first | (cases h; kernel_rfl) | (revert h; simp [roomy]; intro h; subst h; kernel_rfl)
def slices_Clone_byte_s (args : List V) : Option (Bool × (V × List V)) := bif argsOk [(.one (.inl t_byte))] args then some ((slices_Clone_byte (rd args 0).L).isSome, slices_Clone_byte_sh ((slices_Clone_byte (rd args 0).L).getD default)) else none
theorem slices_Clone_byte_s_ok : ∀ args r, slices_Clone_byte_s args = some (true, r) → SumOk Try.prog tab 144 args r :=
  Base.sumNil (cfg := slices_Clone_byte_c) (F := slices_Clone_byte) (shr := slices_Clone_byte_sh) base slices_Clone_byte_c_ok Try.func144 (by kernel_rfl) noLo t_byte (by kernel_rfl) [[(.rr t_byte true)]] [] (by kernel_rfl) slices_Clone_byte_e1 slices_Clone_byte_e2
def impl_Op_own_c : Cfg := ⟨tab, sumsOf [(144, slices_Clone_byte_s)], fun _ => false, fun f => (look [(144, [some t_byte])] f).getD [], false, fun _ => false⟩
theorem impl_Op_own_c_ok : SumsOk Try.prog tab impl_Op_own_c.sums := sums_cons f144_en slices_Clone_byte_s_ok (sums_nil)
abbrev impl_Op_own_L : Loops := noL
def impl_Op_own_sh (r_ : V) : V × List V := ((h4 r_), [])
theorem impl_Op_own_e (o : V) : Agr (wkF [q5] []) impl_Op_own_sh (impl_Op_own o) (evalFn impl_Op_own_c impl_Op_own_L Try.f132 [(n_laws_Op o)]) := by
  have h : evalFn impl_Op_own_c impl_Op_own_L Try.f132 [(n_laws_Op o)] = (rcall (slices_Clone_byte (gl o 1)) fun r104 => rcall (slices_Clone_byte (gl o 2)) fun r105 => some ((V.agg [(vi (gi o 0)), (V.rr t_byte true r104), (V.rr t_byte true r105), (vi (gi o 3))]), [])) := by kernel_rfl
  rw [h, impl_Op_own]
  clear h
  repeat' (first | exact A0 | refine A1 ?_ ?_ | refine A2 fun _ => ?_ | refine A3 fun _ => ?_ | exact A4 (by kernel_rfl))
def impl_Op_own_A : List S2 := [(.agg q0)]
def impl_Op_own_F (args : List V) : Option (V) := impl_Op_own (rd args 0)
def impl_Op_own_s (args : List V) : Option (Bool × (V × List V)) := bif argsOk impl_Op_own_A args then some ((impl_Op_own_F args).isSome, impl_Op_own_sh ((impl_Op_own_F args).getD default)) else none
theorem impl_Op_own_s_ok : ∀ args r, impl_Op_own_s args = some (true, r) → SumOk Try.prog tab 132 args r :=
  Base.sum (cfg := impl_Op_own_c) (F := impl_Op_own_F) (shr := impl_Op_own_sh) base impl_Op_own_c_ok Try.func132 (by kernel_rfl) noLo impl_Op_own_A (by kernel_rfl) [q5] [] (by kernel_rfl) fun args h => by
    have q := impl_Op_own_e (rd args 0)
    rw [show [(n_laws_Op (rd args 0))] = args from h] at q
    exact q
def impl_Cmd_own_c : Cfg := ⟨tab, sumsOf [(132, impl_Op_own_s)], fun _ => false, fun f => (look [(132, [none])] f).getD [], false, fun _ => false⟩
theorem impl_Cmd_own_c_ok : SumsOk Try.prog tab impl_Cmd_own_c.sums := sums_cons f132_en impl_Op_own_s_ok (sums_nil)
abbrev impl_Cmd_own_L : Loops := noL
def impl_Cmd_own_sh (r_ : V) : V × List V := ((h6 r_), [])
theorem impl_Cmd_own_e (c : V) : Agr (wkF [q7] []) impl_Cmd_own_sh (impl_Cmd_own c) (evalFn impl_Cmd_own_c impl_Cmd_own_L Try.f98 [(n_laws_Cmd c)]) := by
  have h : evalFn impl_Cmd_own_c impl_Cmd_own_L Try.f98 [(n_laws_Cmd c)] = (rcall (impl_Op_own (V.agg [(vi (gi c 2)), (V.inl t_byte (gl c 3)), (V.inl t_byte (gl c 4)), (vi (gi c 5))])) fun r106 => some ((V.agg [(vi (gi c 0)), (vi (gi c 1)), (vi (gi r106 0)), (V.rr t_byte true (gl r106 1)), (V.rr t_byte true (gl r106 2)), (vi (gi r106 3))]), [])) := by kernel_rfl
  rw [h, impl_Cmd_own]
  clear h
  repeat' (first | exact A0 | refine A1 ?_ ?_ | refine A2 fun _ => ?_ | refine A3 fun _ => ?_ | exact A4 (by kernel_rfl))
def impl_Cmd_own_A : List S2 := [(.agg q1)]
def impl_Cmd_own_F (args : List V) : Option (V) := impl_Cmd_own (rd args 0)
def impl_Cmd_own_s (args : List V) : Option (Bool × (V × List V)) := bif argsOk impl_Cmd_own_A args then some ((impl_Cmd_own_F args).isSome, impl_Cmd_own_sh ((impl_Cmd_own_F args).getD default)) else none
theorem impl_Cmd_own_s_ok : ∀ args r, impl_Cmd_own_s args = some (true, r) → SumOk Try.prog tab 98 args r :=
  Base.sum (cfg := impl_Cmd_own_c) (F := impl_Cmd_own_F) (shr := impl_Cmd_own_sh) base impl_Cmd_own_c_ok Try.func98 (by kernel_rfl) noLo impl_Cmd_own_A (by kernel_rfl) [q7] [] (by kernel_rfl) fun args h => by
    have q := impl_Cmd_own_e (rd args 0)
    rw [show [(n_laws_Cmd (rd args 0))] = args from h] at q
    exact q
def impl_ownItems_c : Cfg := ⟨tab, sumsOf [(98, impl_Cmd_own_s)], fun _ => false, fun f => (look [(98, [none])] f).getD [], false, fun _ => false⟩
theorem impl_ownItems_c_ok : SumsOk Try.prog tab impl_ownItems_c.sums := sums_cons f98_en impl_Cmd_own_s_ok (sums_nil)
def impl_ownItems_l3_F (st : St) : Option (List V) := impl_ownItems_l3 ((((sv st 2).I) - ((sv st 3).I)).toNat + 1) ((sv st 1).L) ((sv st 2).I) ((sv st 3).I) (br st 0)
def impl_ownItems_l3_ps (r_ : List V) : List (Ex × St) := [((Ex.exit 0), (⟨[(3, (vs 0 t_impl_Item))], [(0, some (Blk.row t_impl_Item true r_))], 1, []⟩ : St))]
def impl_ownItems_l3_ss : SS := ⟨[(3, (.one (.sl 0 t_impl_Item))), (6, (.one (.inl t_impl_Item))), (7, (.one (.int .i64))), (8, (.one (.int .i64)))], [(.row t_impl_Item true)], 1, []⟩
def impl_ownItems_l3_e : LE := ⟨3, impl_ownItems_l3_ss, fun st => Out.tst (impl_ownItems_l3_F st).isSome (brs ((fun r_ => 0) ((impl_ownItems_l3_F st).getD default)) 0 (impl_ownItems_l3_ps ((impl_ownItems_l3_F st).getD default)))⟩
def impl_ownItems_L : Loops := ⟨fun k => (look [(3, [3, 6, 7, 8])] k).getD [], fun k => (look [(3, [⟨3, none, true⟩])] k).getD [], fun k => (look [(3, [3])] k).getD [], runL [impl_ownItems_l3_e]⟩
theorem impl_ownItems_l3_ok (k_ : Nat) : ∀ (v6 : List V) (v7 : Int) (v8 : Int) (r0 : List V), Agr id (fun r_ => pick (0) 0 (impl_ownItems_l3_ps r_)) (impl_ownItems_l3 k_ v6 v7 v8 r0) (rounds impl_ownItems_c impl_ownItems_L ((loopsIn (bodyOf Try.f47)).getD 0 .skip) k_ (⟨[(3, (vs 0 t_impl_Item)), (6, (V.inl t_impl_Item v6)), (7, (vi v7)), (8, (vi v8))], [(0, some (Blk.row t_impl_Item true r0))], 1, []⟩ : St)) := by
  induction k_ with
  | zero => intros; exact A0
  | succ k_ ih =>
    intro v6 v7 v8 r0
    have h : rounds impl_ownItems_c impl_ownItems_L ((loopsIn (bodyOf Try.f47)).getD 0 .skip) (k_ + 1) (⟨[(3, (vs 0 t_impl_Item)), (6, (V.inl t_impl_Item v6)), (7, (vi v7)), (8, (vi v8))], [(0, some (Blk.row t_impl_Item true r0))], 1, []⟩ : St) = (bif (decide (v8 < v7)) then bif (idxOk v8 v6.length) then rcall (impl_Cmd_own (V.agg [(vi (gi (rd v6 v8.toNat) 1)), (vi (gi (rd v6 v8.toNat) 2)), (vi (gi (rd v6 v8.toNat) 3)), (V.inl t_byte (gl (rd v6 v8.toNat) 4)), (V.inl t_byte (gl (rd v6 v8.toNat) 5)), (vi (gi (rd v6 v8.toNat) 6))])) fun r107 => bif ((roomy (r0.length + 1) 88) && true) then rounds impl_ownItems_c impl_ownItems_L ((loopsIn (bodyOf Try.f47)).getD 0 .skip) k_ (⟨[(3, (vs 0 t_impl_Item)), (6, (V.inl t_impl_Item v6)), (7, (vi v7)), (8, (vi (w6 (v8 + 1))))], [(0, some (Blk.row t_impl_Item true (r0 ++ [(V.agg [(vi (gi (rd v6 v8.toNat) 0)), (vi (gi r107 0)), (vi (gi r107 1)), (vi (gi r107 2)), (V.inl t_byte (gl r107 3)), (V.inl t_byte (gl r107 4)), (vi (gi r107 5))])])))], 1, []⟩ : St) else none else none else some ((Ex.exit 0), (⟨[(3, (vs 0 t_impl_Item))], [(0, some (Blk.row t_impl_Item true r0))], 1, []⟩ : St))) := by kernel_rfl
    rw [h, impl_ownItems_l3]
    clear h
    repeat' (first | exact A0 | refine A1 ?_ ?_ | refine A2 fun _ => ?_ | refine A3 fun _ => ?_ | exact A4 (by kernel_rfl) | exact ih _ _ _ _)
theorem impl_ownItems_lo : LoopsOk impl_ownItems_c impl_ownItems_L (bodyOf Try.f47) := by
  refine GoodAll.ok (l := [impl_ownItems_l3_e]) ?_ rfl
  refine GoodAll.cons 0 (by kernel_rfl) ?_ ?_
  · exact good_of (key := 3) (ss := impl_ownItems_l3_ss) (F := impl_ownItems_l3_F) (ix := fun r_ => 0) (ps := impl_ownItems_l3_ps) (fun st => (((sv st 2).I) - ((sv st 3).I)).toNat + 1) fun st h => by
      have q := impl_ownItems_l3_ok ((((sv st 2).I) - ((sv st 3).I)).toNat + 1) ((sv st 1).L) ((sv st 2).I) ((sv st 3).I) (br st 0)
      rw [show (⟨[(3, (vs 0 t_impl_Item)), (6, (V.inl t_impl_Item ((sv st 1).L))), (7, (vi ((sv st 2).I))), (8, (vi ((sv st 3).I)))], [(0, some (Blk.row t_impl_Item true (br st 0)))], 1, []⟩ : St) = st from h] at q
      exact q
  exact GoodAll.nil
def impl_ownItems_sh (r_ : List V) : V × List V := ((V.rr t_impl_Item true r_), [])
theorem impl_ownItems_e (list : List V) : Agr (wkF [[(.rr t_impl_Item true)]] []) impl_ownItems_sh (impl_ownItems list) (evalFn impl_ownItems_c impl_ownItems_L Try.f47 [(V.inl t_impl_Item list)]) := by
  have h : evalFn impl_ownItems_c impl_ownItems_L Try.f47 [(V.inl t_impl_Item list)] = (rcall (impl_ownItems_l3 (((ln list) - 0).toNat + 1) list (ln list) 0 []) fun r108 => some ((V.rr t_impl_Item true r108), [])) := by kernel_rfl
  rw [h, impl_ownItems]
  clear h
  repeat' (first | exact A0 | refine A1 ?_ ?_ | refine A2 fun _ => ?_ | refine A3 fun _ => ?_ | exact A4 (by kernel_rfl))
def impl_ownItems_A : List S2 := [(.one (.inl t_impl_Item))]
def impl_ownItems_F (args : List V) : Option (List V) := impl_ownItems ((rd args 0).L)
def impl_ownItems_s (args : List V) : Option (Bool × (V × List V)) := bif argsOk impl_ownItems_A args then some ((impl_ownItems_F args).isSome, impl_ownItems_sh ((impl_ownItems_F args).getD default)) else none
theorem impl_ownItems_s_ok : ∀ args r, impl_ownItems_s args = some (true, r) → SumOk Try.prog tab 47 args r :=
  Base.sum (cfg := impl_ownItems_c) (F := impl_ownItems_F) (shr := impl_ownItems_sh) base impl_ownItems_c_ok Try.func47 (by kernel_rfl) impl_ownItems_lo impl_ownItems_A (by kernel_rfl) [[(.rr t_impl_Item true)]] [] (by kernel_rfl) fun args h => by
    have q := impl_ownItems_e ((rd args 0).L)
    rw [show [(V.inl t_impl_Item ((rd args 0).L))] = args from h] at q
    exact q
def slices_Clone_bool_c : Cfg := ⟨tab, sumsOf [], fun _ => false, fun f => (look [] f).getD [], false, fun _ => false⟩
theorem slices_Clone_bool_c_ok : SumsOk Try.prog tab slices_Clone_bool_c.sums := sums_nil
abbrev slices_Clone_bool_L : Loops := noL
def slices_Clone_bool_sh (r_ : List V) : V × List V := ((V.rr t_bool true r_), [])
theorem slices_Clone_bool_e1 (s : List V) : Agr (wkF [[(.rr t_bool true)]] []) slices_Clone_bool_sh (slices_Clone_bool s) (evalFn slices_Clone_bool_c slices_Clone_bool_L Try.f112 [(V.nn t_bool s)]) := by
  have h : evalFn slices_Clone_bool_c slices_Clone_bool_L Try.f112 [(V.nn t_bool s)] = (bif ((roomy (0 + s.length) 1) && true) then some ((V.rr t_bool true s), []) else none) := by kernel_rfl
  rw [h, slices_Clone_bool]
  clear h
  repeat' (first | exact A0 | refine A1 ?_ ?_ | refine A2 fun _ => ?_ | refine A3 fun _ => ?_ | exact A4 (by kernel_rfl))
theorem slices_Clone_bool_e2 : Agr (wkF [[(.rr t_bool true)]] []) slices_Clone_bool_sh (slices_Clone_bool []) (evalFn slices_Clone_bool_c slices_Clone_bool_L Try.f112 [(V.nl t_bool)]) := by
  have h : evalFn slices_Clone_bool_c slices_Clone_bool_L Try.f112 [(V.nl t_bool)] = (some ((V.nil t_bool), [])) := by kernel_rfl
  rw [h, slices_Clone_bool]
  clear h
  intro r h; revert h; simp only [List.length_nil]; intro h; first | (cases h; kernel_rfl) | (revert h; simp [roomy]; intro h; subst h; kernel_rfl)
def slices_Clone_bool_s (args : List V) : Option (Bool × (V × List V)) := bif argsOk [(.one (.inl t_bool))] args then some ((slices_Clone_bool (rd args 0).L).isSome, slices_Clone_bool_sh ((slices_Clone_bool (rd args 0).L).getD default)) else none
theorem slices_Clone_bool_s_ok : ∀ args r, slices_Clone_bool_s args = some (true, r) → SumOk Try.prog tab 112 args r :=
  Base.sumNil (cfg := slices_Clone_bool_c) (F := slices_Clone_bool) (shr := slices_Clone_bool_sh) base slices_Clone_bool_c_ok Try.func112 (by kernel_rfl) noLo t_bool (by kernel_rfl) [[(.rr t_bool true)]] [] (by kernel_rfl) slices_Clone_bool_e1 slices_Clone_bool_e2
def slices_Clone_int_c : Cfg := ⟨tab, sumsOf [], fun _ => false, fun f => (look [] f).getD [], false, fun _ => false⟩
theorem slices_Clone_int_c_ok : SumsOk Try.prog tab slices_Clone_int_c.sums := sums_nil
abbrev slices_Clone_int_L : Loops := noL
def slices_Clone_int_sh (r_ : List V) : V × List V := ((V.rr t_int' true r_), [])
theorem slices_Clone_int_e1 (s : List V) : Agr (wkF [[(.rr t_int' true)]] []) slices_Clone_int_sh (slices_Clone_int s) (evalFn slices_Clone_int_c slices_Clone_int_L Try.f113 [(V.nn t_int' s)]) := by
  have h : evalFn slices_Clone_int_c slices_Clone_int_L Try.f113 [(V.nn t_int' s)] = (bif ((roomy (0 + s.length) 8) && true) then some ((V.rr t_int' true s), []) else none) := by kernel_rfl
  rw [h, slices_Clone_int]
  clear h
  repeat' (first | exact A0 | refine A1 ?_ ?_ | refine A2 fun _ => ?_ | refine A3 fun _ => ?_ | exact A4 (by kernel_rfl))
theorem slices_Clone_int_e2 : Agr (wkF [[(.rr t_int' true)]] []) slices_Clone_int_sh (slices_Clone_int []) (evalFn slices_Clone_int_c slices_Clone_int_L Try.f113 [(V.nl t_int')]) := by
  have h : evalFn slices_Clone_int_c slices_Clone_int_L Try.f113 [(V.nl t_int')] = (some ((V.nil t_int'), [])) := by kernel_rfl
  rw [h, slices_Clone_int]
  clear h
  intro r h; revert h; simp only [List.length_nil]; intro h; first | (cases h; kernel_rfl) | (revert h; simp [roomy]; intro h; subst h; kernel_rfl)
def slices_Clone_int_s (args : List V) : Option (Bool × (V × List V)) := bif argsOk [(.one (.inl t_int'))] args then some ((slices_Clone_int (rd args 0).L).isSome, slices_Clone_int_sh ((slices_Clone_int (rd args 0).L).getD default)) else none
theorem slices_Clone_int_s_ok : ∀ args r, slices_Clone_int_s args = some (true, r) → SumOk Try.prog tab 113 args r :=
  Base.sumNil (cfg := slices_Clone_int_c) (F := slices_Clone_int) (shr := slices_Clone_int_sh) base slices_Clone_int_c_ok Try.func113 (by kernel_rfl) noLo t_int' (by kernel_rfl) [[(.rr t_int' true)]] [] (by kernel_rfl) slices_Clone_int_e1 slices_Clone_int_e2
def impl_Node_own_c : Cfg := ⟨tab, sumsOf [(47, impl_ownItems_s), (112, slices_Clone_bool_s), (113, slices_Clone_int_s)], fun _ => false, fun f => (look [(47, [some t_impl_Item]), (112, [some t_bool]), (113, [some t_int'])] f).getD [], false, fun _ => false⟩
theorem impl_Node_own_c_ok : SumsOk Try.prog tab impl_Node_own_c.sums := sums_cons f47_en impl_ownItems_s_ok (sums_cons f112_en slices_Clone_bool_s_ok (sums_cons f113_en slices_Clone_int_s_ok (sums_nil)))
abbrev impl_Node_own_L : Loops := noL
def impl_Node_own_sh (r_ : V) : V × List V := ((h10 r_), [])
theorem impl_Node_own_e (n : V) : Agr (wkF [q11] []) impl_Node_own_sh (impl_Node_own n) (evalFn impl_Node_own_c impl_Node_own_L Try.f69 [(n_impl_Node n)]) := by
  have h : evalFn impl_Node_own_c impl_Node_own_L Try.f69 [(n_impl_Node n)] = (rcall (impl_ownItems (gl n 3)) fun r109 => rcall (slices_Clone_bool (gl n 8)) fun r110 => rcall (slices_Clone_int (gl n 9)) fun r111 => rcall (slices_Clone_int (gl n 10)) fun r112 => some ((V.agg [(vi (gi n 0)), (vi (gi n 1)), (vi (gi n 2)), (V.rr t_impl_Item true r109), (vi (gi n 4)), (vi (gi n 5)), (vi (gi n 6)), (vi (gi n 7)), (V.rr t_bool true r110), (V.rr t_int' true r111), (V.rr t_int' true r112)]), [])) := by kernel_rfl
  rw [h, impl_Node_own]
  clear h
  repeat' (first | exact A0 | refine A1 ?_ ?_ | refine A2 fun _ => ?_ | refine A3 fun _ => ?_ | exact A4 (by kernel_rfl))
def impl_Node_own_A : List S2 := [(.agg q13)]
def impl_Node_own_F (args : List V) : Option (V) := impl_Node_own (rd args 0)
def impl_Node_own_s (args : List V) : Option (Bool × (V × List V)) := bif argsOk impl_Node_own_A args then some ((impl_Node_own_F args).isSome, impl_Node_own_sh ((impl_Node_own_F args).getD default)) else none
theorem impl_Node_own_s_ok : ∀ args r, impl_Node_own_s args = some (true, r) → SumOk Try.prog tab 69 args r :=
  Base.sum (cfg := impl_Node_own_c) (F := impl_Node_own_F) (shr := impl_Node_own_sh) base impl_Node_own_c_ok Try.func69 (by kernel_rfl) noLo impl_Node_own_A (by kernel_rfl) [q11] [] (by kernel_rfl) fun args h => by
    have q := impl_Node_own_e (rd args 0)
    rw [show [(n_impl_Node (rd args 0))] = args from h] at q
    exact q
def impl_Node_others_c : Cfg := ⟨tab, sumsOf [], fun _ => false, fun f => (look [] f).getD [], false, fun _ => false⟩
theorem impl_Node_others_c_ok : SumsOk Try.prog tab impl_Node_others_c.sums := sums_nil
def impl_Node_others_l3_F (st : St) : Option (List V) := impl_Node_others_l3 ((((sv st 2).I) - ((sv st 3).I)).toNat + 1) ((sv st 2).I) ((sv st 3).I) (bc st 0) (br st 1)
def impl_Node_others_l3_ps (r_ : List V) : List (Ex × St) := [((Ex.exit 0), (⟨[(3, (vs 0 t_int'))], [(0, some (Blk.row t_int' true r_))], 1, []⟩ : St))]
def impl_Node_others_l3_ss : SS := ⟨[(1, (.one (.bp 0 0))), (3, (.one (.sl 1 t_int'))), (7, (.one (.int .i64))), (8, (.one (.int .i64)))], [(.box t_impl_Node q13), (.row t_int' true)], 2, []⟩
def impl_Node_others_l3_e : LE := ⟨3, impl_Node_others_l3_ss, fun st => Out.tst (impl_Node_others_l3_F st).isSome (brs ((fun r_ => 0) ((impl_Node_others_l3_F st).getD default)) 0 (impl_Node_others_l3_ps ((impl_Node_others_l3_F st).getD default)))⟩
def impl_Node_others_L : Loops := ⟨fun k => (look [(3, [1, 3, 7, 8])] k).getD [], fun k => (look [(3, [⟨3, none, true⟩])] k).getD [], fun k => (look [(3, [3])] k).getD [], runL [impl_Node_others_l3_e]⟩
theorem impl_Node_others_l3_ok (k_ : Nat) : ∀ (v7 : Int) (v8 : Int) (b0 : V) (r1 : List V), Agr id (fun r_ => pick (0) 0 (impl_Node_others_l3_ps r_)) (impl_Node_others_l3 k_ v7 v8 b0 r1) (rounds impl_Node_others_c impl_Node_others_L ((loopsIn (bodyOf Try.f61)).getD 0 .skip) k_ (⟨[(1, (V.bp 0 0)), (3, (vs 1 t_int')), (7, (vi v7)), (8, (vi v8))], [(0, some (Blk.box t_impl_Node (l12 b0))), (1, some (Blk.row t_int' true r1))], 2, []⟩ : St)) := by
  induction k_ with
  | zero => intros; exact A0
  | succ k_ ih =>
    intro v7 v8 b0 r1
    have h : rounds impl_Node_others_c impl_Node_others_L ((loopsIn (bodyOf Try.f61)).getD 0 .skip) (k_ + 1) (⟨[(1, (V.bp 0 0)), (3, (vs 1 t_int')), (7, (vi v7)), (8, (vi v8))], [(0, some (Blk.box t_impl_Node (l12 b0))), (1, some (Blk.row t_int' true r1))], 2, []⟩ : St) = (bif (decide (v8 < v7)) then bif (!(decide (v8 = (gi b0 0)))) then bif ((roomy (r1.length + 1) 8) && true) then rounds impl_Node_others_c impl_Node_others_L ((loopsIn (bodyOf Try.f61)).getD 0 .skip) k_ (⟨[(1, (V.bp 0 0)), (3, (vs 1 t_int')), (7, (vi v7)), (8, (vi (w6 (v8 + 1))))], [(0, some (Blk.box t_impl_Node (l12 b0))), (1, some (Blk.row t_int' true (r1 ++ [(vi v8)])))], 2, []⟩ : St) else none else rounds impl_Node_others_c impl_Node_others_L ((loopsIn (bodyOf Try.f61)).getD 0 .skip) k_ (⟨[(1, (V.bp 0 0)), (3, (vs 1 t_int')), (7, (vi v7)), (8, (vi (w6 (v8 + 1))))], [(0, some (Blk.box t_impl_Node (l12 b0))), (1, some (Blk.row t_int' true r1))], 2, []⟩ : St) else some ((Ex.exit 0), (⟨[(3, (vs 0 t_int'))], [(0, some (Blk.row t_int' true r1))], 1, []⟩ : St))) := by kernel_rfl
    rw [h, impl_Node_others_l3]
    clear h
    repeat' (first | exact A0 | refine A1 ?_ ?_ | refine A2 fun _ => ?_ | refine A3 fun _ => ?_ | exact A4 (by kernel_rfl) | exact ih _ _ _ _)
theorem impl_Node_others_lo : LoopsOk impl_Node_others_c impl_Node_others_L (bodyOf Try.f61) := by
  refine GoodAll.ok (l := [impl_Node_others_l3_e]) ?_ rfl
  refine GoodAll.cons 0 (by kernel_rfl) ?_ ?_
  · exact good_of (key := 3) (ss := impl_Node_others_l3_ss) (F := impl_Node_others_l3_F) (ix := fun r_ => 0) (ps := impl_Node_others_l3_ps) (fun st => (((sv st 2).I) - ((sv st 3).I)).toNat + 1) fun st h => by
      have q := impl_Node_others_l3_ok ((((sv st 2).I) - ((sv st 3).I)).toNat + 1) ((sv st 2).I) ((sv st 3).I) (bc st 0) (br st 1)
      rw [show (⟨[(1, (V.bp 0 0)), (3, (vs 1 t_int')), (7, (vi ((sv st 2).I))), (8, (vi ((sv st 3).I)))], [(0, some (Blk.box t_impl_Node (l12 (bc st 0)))), (1, some (Blk.row t_int' true (br st 1)))], 2, []⟩ : St) = st from h] at q
      exact q
  exact GoodAll.nil
def impl_Node_others_sh (r_ : List V) : V × List V := ((V.rr t_int' true r_), [])
theorem impl_Node_others_e (n : V) : Agr (wkF [[(.rr t_int' true)]] []) impl_Node_others_sh (impl_Node_others n) (evalFn impl_Node_others_c impl_Node_others_L Try.f61 [(n_impl_Node n)]) := by
  have h : evalFn impl_Node_others_c impl_Node_others_L Try.f61 [(n_impl_Node n)] = (rcall (impl_Node_others_l3 (((((gl n 8).length : Nat) : Int) - 0).toNat + 1) (((gl n 8).length : Nat) : Int) 0 (n_impl_Node n) []) fun r114 => some ((V.rr t_int' true r114), [])) := by kernel_rfl
  rw [h, impl_Node_others]
  clear h
  repeat' (first | exact A0 | refine A1 ?_ ?_ | refine A2 fun _ => ?_ | refine A3 fun _ => ?_ | exact A4 (by kernel_rfl))
def impl_Node_others_A : List S2 := [(.agg q13)]
def impl_Node_others_F (args : List V) : Option (List V) := impl_Node_others (rd args 0)
def impl_Node_others_s (args : List V) : Option (Bool × (V × List V)) := bif argsOk impl_Node_others_A args then some ((impl_Node_others_F args).isSome, impl_Node_others_sh ((impl_Node_others_F args).getD default)) else none
theorem impl_Node_others_s_ok : ∀ args r, impl_Node_others_s args = some (true, r) → SumOk Try.prog tab 61 args r :=
  Base.sum (cfg := impl_Node_others_c) (F := impl_Node_others_F) (shr := impl_Node_others_sh) base impl_Node_others_c_ok Try.func61 (by kernel_rfl) impl_Node_others_lo impl_Node_others_A (by kernel_rfl) [[(.rr t_int' true)]] [] (by kernel_rfl) fun args h => by
    have q := impl_Node_others_e (rd args 0)
    rw [show [(n_impl_Node (rd args 0))] = args from h] at q
    exact q
def impl_Node_termAt_c : Cfg := ⟨tab, sumsOf [(90, impl_within_s)], fun _ => false, fun f => (look [(90, [none, none, none])] f).getD [], false, fun _ => false⟩
theorem impl_Node_termAt_c_ok : SumsOk Try.prog tab impl_Node_termAt_c.sums := sums_cons f90_en impl_within_s_ok (sums_nil)
abbrev impl_Node_termAt_L : Loops := noL
def impl_Node_termAt_sh (r_ : Int) : V × List V := ((vi r_), [])
theorem impl_Node_termAt_e (n : V) (place : Int) : Agr (wkF [[.dead]] []) impl_Node_termAt_sh (impl_Node_termAt n place) (evalFn impl_Node_termAt_c impl_Node_termAt_L Try.f103 [(n_impl_Node n), (vi place)]) := by
  have h : evalFn impl_Node_termAt_c impl_Node_termAt_L Try.f103 [(n_impl_Node n), (vi place)] = (bif (!(impl_within place 1 (((gl n 3).length : Nat) : Int))) then some ((vi 0), []) else bif (idxOk (w6 (place - 1)) ((gl n 3).length)) then some ((vi (gi (rd (gl n 3) ((w6 (place - 1)).toNat)) 0)), []) else none) := by kernel_rfl
  rw [h, impl_Node_termAt]
  clear h
  repeat' (first | exact A0 | refine A1 ?_ ?_ | refine A2 fun _ => ?_ | refine A3 fun _ => ?_ | exact A4 (by kernel_rfl))
def impl_Node_termAt_A : List S2 := [(.agg q13), (.one (.int .i64))]
def impl_Node_termAt_F (args : List V) : Option (Int) := impl_Node_termAt (rd args 0) ((rd args 1).I)
def impl_Node_termAt_s (args : List V) : Option (Bool × (V × List V)) := bif argsOk impl_Node_termAt_A args then some ((impl_Node_termAt_F args).isSome, impl_Node_termAt_sh ((impl_Node_termAt_F args).getD default)) else none
theorem impl_Node_termAt_s_ok : ∀ args r, impl_Node_termAt_s args = some (true, r) → SumOk Try.prog tab 103 args r :=
  Base.sum (cfg := impl_Node_termAt_c) (F := impl_Node_termAt_F) (shr := impl_Node_termAt_sh) base impl_Node_termAt_c_ok Try.func103 (by kernel_rfl) noLo impl_Node_termAt_A (by kernel_rfl) [[.dead]] [] (by kernel_rfl) fun args h => by
    have q := impl_Node_termAt_e (rd args 0) ((rd args 1).I)
    rw [show [(n_impl_Node (rd args 0)), (vi ((rd args 1).I))] = args from h] at q
    exact q
def impl_Node_entries_c : Cfg := ⟨tab, sumsOf [(103, impl_Node_termAt_s), (47, impl_ownItems_s)], fun _ => false, fun f => (look [(103, [none, none]), (47, [some t_impl_Item])] f).getD [], false, fun _ => false⟩
theorem impl_Node_entries_c_ok : SumsOk Try.prog tab impl_Node_entries_c.sums := sums_cons f103_en impl_Node_termAt_s_ok (sums_cons f47_en impl_ownItems_s_ok (sums_nil))
abbrev impl_Node_entries_L : Loops := noL
def impl_Node_entries_sh (r_ : V) : V × List V := ((h33 r_), [])
theorem impl_Node_entries_e (n : V) (to : Int) : Agr (wkF [q34] []) impl_Node_entries_sh (impl_Node_entries n to) (evalFn impl_Node_entries_c impl_Node_entries_L Try.f62 [(n_impl_Node n), (vi to)]) := by
  have h : evalFn impl_Node_entries_c impl_Node_entries_L Try.f62 [(n_impl_Node n), (vi to)] = (bif (idxOk to ((gl n 9).length)) then bif ((decide ((0 : Int) ≤ (mnI (((gl n 3).length : Nat) : Int) (w6 ((w6 ((gi (rd (gl n 9) to.toNat) 0) - 1)) + 4))))) && (decide ((mnI (((gl n 3).length : Nat) : Int) (w6 ((w6 ((gi (rd (gl n 9) to.toNat) 0) - 1)) + 4))) ≤ (((gl n 3).length : Nat) : Int)))) then bif ((decide ((0 : Int) ≤ (w6 ((gi (rd (gl n 9) to.toNat) 0) - 1)))) && (decide ((w6 ((gi (rd (gl n 9) to.toNat) 0) - 1)) ≤ (((mnI (((gl n 3).length : Nat) : Int) (w6 ((w6 ((gi (rd (gl n 9) to.toNat) 0) - 1)) + 4))).toNat : Nat) : Int)))) then rcall (impl_Node_termAt (n_impl_Node n) (w6 ((gi (rd (gl n 9) to.toNat) 0) - 1))) fun r116 => rcall (impl_ownItems (((gl n 3).drop ((w6 ((gi (rd (gl n 9) to.toNat) 0) - 1)).toNat)).take (((mnI (((gl n 3).length : Nat) : Int) (w6 ((w6 ((gi (rd (gl n 9) to.toNat) 0) - 1)) + 4))).toNat) - ((w6 ((gi (rd (gl n 9) to.toNat) 0) - 1)).toNat)))) fun r117 => some ((V.agg [(vi 2), (vi (gi n 0)), (vi to), (vi (gi n 1)), (vi (w6 ((gi (rd (gl n 9) to.toNat) 0) - 1))), (vi r116), (V.rr t_impl_Item true r117), (vi (gi n 4)), (V.bool false)]), []) else none else none else none) := by kernel_rfl
  rw [h, impl_Node_entries]
  clear h
  repeat' (first | exact A0 | refine A1 ?_ ?_ | refine A2 fun _ => ?_ | refine A3 fun _ => ?_ | exact A4 (by kernel_rfl))
def impl_Node_entries_A : List S2 := [(.agg q13), (.one (.int .i64))]
def impl_Node_entries_F (args : List V) : Option (V) := impl_Node_entries (rd args 0) ((rd args 1).I)
def impl_Node_entries_s (args : List V) : Option (Bool × (V × List V)) := bif argsOk impl_Node_entries_A args then some ((impl_Node_entries_F args).isSome, impl_Node_entries_sh ((impl_Node_entries_F args).getD default)) else none
theorem impl_Node_entries_s_ok : ∀ args r, impl_Node_entries_s args = some (true, r) → SumOk Try.prog tab 62 args r :=
  Base.sum (cfg := impl_Node_entries_c) (F := impl_Node_entries_F) (shr := impl_Node_entries_sh) base impl_Node_entries_c_ok Try.func62 (by kernel_rfl) noLo impl_Node_entries_A (by kernel_rfl) [q34] [] (by kernel_rfl) fun args h => by
    have q := impl_Node_entries_e (rd args 0) ((rd args 1).I)
    rw [show [(n_impl_Node (rd args 0)), (vi ((rd args 1).I))] = args from h] at q
    exact q
def impl_server_send_c : Cfg := ⟨tab, sumsOf [(62, impl_Node_entries_s)], fun _ => false, fun f => (look [(62, [none, none])] f).getD [], false, fun _ => false⟩
theorem impl_server_send_c_ok : SumsOk Try.prog tab impl_server_send_c.sums := sums_cons f62_en impl_Node_entries_s_ok (sums_nil)
abbrev impl_server_send_L : Loops := noL
def impl_server_send_sh (r_ : V) : V × List V := ((V.tup []), [(V.rf t_impl_server (l35 r_))])
theorem impl_server_send_e (s : V) (to : Int) : Agr (wkF [] [q36]) impl_server_send_sh (impl_server_send s to) (evalFn impl_server_send_c impl_server_send_L Try.f141 [(V.rf t_impl_server (l35 s)), (vi to)]) := by
  have h : evalFn impl_server_send_c impl_server_send_L Try.f141 [(V.rf t_impl_server (l35 s)), (vi to)] = (rcall (impl_Node_entries (n_impl_Node s) to) fun r118 => bif ((roomy (((gl s 11).length) + 1) 88) && true) then some ((V.tup []), [(V.rf t_impl_server [(vi (gi s 0)), (vi (gi s 1)), (vi (gi s 2)), (V.rr t_impl_Item true (gl s 3)), (vi (gi s 4)), (vi (gi s 5)), (vi (gi s 6)), (vi (gi s 7)), (V.rr t_bool true (gl s 8)), (V.rr t_int' true (gl s 9)), (V.rr t_int' true (gl s 10)), (V.rr t_impl_Msg true ((gl s 11) ++ [(n_impl_Msg r118)]))])]) else none) := by kernel_rfl
  rw [h, impl_server_send]
  clear h
  repeat' (first | exact A0 | refine A1 ?_ ?_ | refine A2 fun _ => ?_ | refine A3 fun _ => ?_ | exact A4 (by kernel_rfl))
def impl_server_send_A : List S2 := [(.rf t_impl_server q37), (.one (.int .i64))]
def impl_server_send_F (args : List V) : Option (V) := impl_server_send ((rd args 0).unbox) ((rd args 1).I)
def impl_server_send_s (args : List V) : Option (Bool × (V × List V)) := bif argsOk impl_server_send_A args then some ((impl_server_send_F args).isSome, impl_server_send_sh ((impl_server_send_F args).getD default)) else none
theorem impl_server_send_s_ok : ∀ args r, impl_server_send_s args = some (true, r) → SumOk Try.prog tab 141 args r :=
  Base.sum (cfg := impl_server_send_c) (F := impl_server_send_F) (shr := impl_server_send_sh) base impl_server_send_c_ok Try.func141 (by kernel_rfl) noLo impl_server_send_A (by kernel_rfl) [] [q36] (by kernel_rfl) fun args h => by
    have q := impl_server_send_e ((rd args 0).unbox) ((rd args 1).I)
    rw [show [(V.rf t_impl_server (l35 ((rd args 0).unbox))), (vi ((rd args 1).I))] = args from h] at q
    exact q
def impl_server_sendAll_c : Cfg := ⟨tab, sumsOf [(61, impl_Node_others_s), (141, impl_server_send_s)], fun _ => false, fun f => (look [(61, [none]), (141, [none, none])] f).getD [], false, fun _ => false⟩
theorem impl_server_sendAll_c_ok : SumsOk Try.prog tab impl_server_sendAll_c.sums := sums_cons f61_en impl_Node_others_s_ok (sums_cons f141_en impl_server_send_s_ok (sums_nil))
def impl_server_sendAll_l1_F (st : St) : Option (V × List V × List V × List V × List V × List V) := impl_server_sendAll_l1 ((((sv st 2).I) - ((sv st 3).I)).toNat + 1) ((sv st 2).I) ((sv st 3).I) (bc st 0) (br st 1) (br st 2) (br st 3) (br st 4) (br st 5) (br st 6)
def impl_server_sendAll_l1_ps (r_ : V × List V × List V × List V × List V × List V) : List (Ex × St) := [((Ex.exit 0), (⟨[], [(0, some (Blk.box t_impl_server (l38 r_.1))), (1, some (Blk.row t_impl_Item true r_.2.1)), (2, some (Blk.row t_bool true r_.2.2.1)), (3, some (Blk.row t_int' true r_.2.2.2.1)), (4, some (Blk.row t_int' true r_.2.2.2.2.1)), (5, some (Blk.row t_impl_Msg true r_.2.2.2.2.2))], 6, [0]⟩ : St))]
def impl_server_sendAll_l1_ss : SS := ⟨[(0, (.one (.bp 0 0))), (8, (.one (.sl 1 t_int'))), (9, (.one (.int .i64))), (10, (.one (.int .i64)))], [(.box t_impl_server q39), (.row t_int' true), (.row t_impl_Item true), (.row t_bool true), (.row t_int' true), (.row t_int' true), (.row t_impl_Msg true)], 7, [0]⟩
def impl_server_sendAll_l1_e : LE := ⟨1, impl_server_sendAll_l1_ss, fun st => Out.tst (impl_server_sendAll_l1_F st).isSome (brs ((fun r_ => 0) ((impl_server_sendAll_l1_F st).getD default)) 0 (impl_server_sendAll_l1_ps ((impl_server_sendAll_l1_F st).getD default)))⟩
def impl_server_sendAll_L : Loops := ⟨fun k => (look [(1, [0, 8, 9, 10])] k).getD [], fun k => (look [] k).getD [], fun k => (look [(1, [])] k).getD [], runL [impl_server_sendAll_l1_e]⟩
theorem impl_server_sendAll_l1_ok (k_ : Nat) : ∀ (v9 : Int) (v10 : Int) (b0 : V) (r1 : List V) (r2 : List V) (r3 : List V) (r4 : List V) (r5 : List V) (r6 : List V), Agr id (fun r_ => pick (0) 0 (impl_server_sendAll_l1_ps r_)) (impl_server_sendAll_l1 k_ v9 v10 b0 r1 r2 r3 r4 r5 r6) (rounds impl_server_sendAll_c impl_server_sendAll_L ((loopsIn (bodyOf Try.f115)).getD 0 .skip) k_ (⟨[(0, (V.bp 0 0)), (8, (vs 1 t_int')), (9, (vi v9)), (10, (vi v10))], [(0, some (Blk.box t_impl_server (l40 b0))), (1, some (Blk.row t_int' true r1)), (2, some (Blk.row t_impl_Item true r2)), (3, some (Blk.row t_bool true r3)), (4, some (Blk.row t_int' true r4)), (5, some (Blk.row t_int' true r5)), (6, some (Blk.row t_impl_Msg true r6))], 7, [0]⟩ : St)) := by
  induction k_ with
  | zero => intros; exact A0
  | succ k_ ih =>
    intro v9 v10 b0 r1 r2 r3 r4 r5 r6
    have h : rounds impl_server_sendAll_c impl_server_sendAll_L ((loopsIn (bodyOf Try.f115)).getD 0 .skip) (k_ + 1) (⟨[(0, (V.bp 0 0)), (8, (vs 1 t_int')), (9, (vi v9)), (10, (vi v10))], [(0, some (Blk.box t_impl_server (l40 b0))), (1, some (Blk.row t_int' true r1)), (2, some (Blk.row t_impl_Item true r2)), (3, some (Blk.row t_bool true r3)), (4, some (Blk.row t_int' true r4)), (5, some (Blk.row t_int' true r5)), (6, some (Blk.row t_impl_Msg true r6))], 7, [0]⟩ : St) = (bif (decide (v10 < v9)) then bif (idxOk v10 r1.length) then rcall (impl_server_send (V.agg [(vi (gi b0 0)), (vi (gi b0 1)), (vi (gi b0 2)), (V.inl t_impl_Item r2), (vi (gi b0 4)), (vi (gi b0 5)), (vi (gi b0 6)), (vi (gi b0 7)), (V.inl t_bool r3), (V.inl t_int' r4), (V.inl t_int' r5), (V.inl t_impl_Msg r6)]) (gi (rd r1 (0 + v10.toNat)) 0)) fun r119 => rounds impl_server_sendAll_c impl_server_sendAll_L ((loopsIn (bodyOf Try.f115)).getD 0 .skip) k_ (⟨[(0, (V.bp 0 0)), (8, (vs 1 t_int')), (9, (vi v9)), (10, (vi (w6 (v10 + 1))))], [(0, some (Blk.box t_impl_server (l40 r119))), (1, some (Blk.row t_int' true r1)), (2, some (Blk.row t_impl_Item true (gl r119 3))), (3, some (Blk.row t_bool true (gl r119 8))), (4, some (Blk.row t_int' true (gl r119 9))), (5, some (Blk.row t_int' true (gl r119 10))), (6, some (Blk.row t_impl_Msg true (gl r119 11)))], 7, [0]⟩ : St) else none else some ((Ex.exit 0), (⟨[], [(0, some (Blk.box t_impl_server (l38 b0))), (1, some (Blk.row t_impl_Item true r2)), (2, some (Blk.row t_bool true r3)), (3, some (Blk.row t_int' true r4)), (4, some (Blk.row t_int' true r5)), (5, some (Blk.row t_impl_Msg true r6))], 6, [0]⟩ : St))) := by kernel_rfl
    rw [h, impl_server_sendAll_l1]
    clear h
    repeat' (first | exact A0 | refine A1 ?_ ?_ | refine A2 fun _ => ?_ | refine A3 fun _ => ?_ | exact A4 (by kernel_rfl) | exact ih _ _ _ _ _ _ _ _ _)
theorem impl_server_sendAll_lo : LoopsOk impl_server_sendAll_c impl_server_sendAll_L (bodyOf Try.f115) := by
  refine GoodAll.ok (l := [impl_server_sendAll_l1_e]) ?_ rfl
  refine GoodAll.cons 0 (by kernel_rfl) ?_ ?_
  · exact good_of (key := 1) (ss := impl_server_sendAll_l1_ss) (F := impl_server_sendAll_l1_F) (ix := fun r_ => 0) (ps := impl_server_sendAll_l1_ps) (fun st => (((sv st 2).I) - ((sv st 3).I)).toNat + 1) fun st h => by
      have q := impl_server_sendAll_l1_ok ((((sv st 2).I) - ((sv st 3).I)).toNat + 1) ((sv st 2).I) ((sv st 3).I) (bc st 0) (br st 1) (br st 2) (br st 3) (br st 4) (br st 5) (br st 6)
      rw [show (⟨[(0, (V.bp 0 0)), (8, (vs 1 t_int')), (9, (vi ((sv st 2).I))), (10, (vi ((sv st 3).I)))], [(0, some (Blk.box t_impl_server (l40 (bc st 0)))), (1, some (Blk.row t_int' true (br st 1))), (2, some (Blk.row t_impl_Item true (br st 2))), (3, some (Blk.row t_bool true (br st 3))), (4, some (Blk.row t_int' true (br st 4))), (5, some (Blk.row t_int' true (br st 5))), (6, some (Blk.row t_impl_Msg true (br st 6)))], 7, [0]⟩ : St) = st from h] at q
      exact q
  exact GoodAll.nil
def impl_server_sendAll_sh (r_ : V) : V × List V := ((V.tup []), [(V.rf t_impl_server (l35 r_))])
theorem impl_server_sendAll_e (s : V) : Agr (wkF [] [q36]) impl_server_sendAll_sh (impl_server_sendAll s) (evalFn impl_server_sendAll_c impl_server_sendAll_L Try.f115 [(V.rf t_impl_server (l35 s))]) := by
  have h : evalFn impl_server_sendAll_c impl_server_sendAll_L Try.f115 [(V.rf t_impl_server (l35 s))] = (rcall (impl_Node_others (n_impl_Node s)) fun r115 => rcall (impl_server_sendAll_l1 (((ln r115) - 0).toNat + 1) (ln r115) 0 (h41 s) r115 (gl s 3) (gl s 8) (gl s 9) (gl s 10) (gl s 11)) fun r120 => some ((V.tup []), [(V.rf t_impl_server [(vi (gi r120.1 0)), (vi (gi r120.1 1)), (vi (gi r120.1 2)), (V.rr t_impl_Item true r120.2.1), (vi (gi r120.1 4)), (vi (gi r120.1 5)), (vi (gi r120.1 6)), (vi (gi r120.1 7)), (V.rr t_bool true r120.2.2.1), (V.rr t_int' true r120.2.2.2.1), (V.rr t_int' true r120.2.2.2.2.1), (V.rr t_impl_Msg true r120.2.2.2.2.2)])])) := by kernel_rfl
  rw [h, impl_server_sendAll]
  clear h
  repeat' (first | exact A0 | refine A1 ?_ ?_ | refine A2 fun _ => ?_ | refine A3 fun _ => ?_ | exact A4 (by kernel_rfl))
def impl_server_sendAll_A : List S2 := [(.rf t_impl_server q37)]
def impl_server_sendAll_F (args : List V) : Option (V) := impl_server_sendAll ((rd args 0).unbox)
def impl_server_sendAll_s (args : List V) : Option (Bool × (V × List V)) := bif argsOk impl_server_sendAll_A args then some ((impl_server_sendAll_F args).isSome, impl_server_sendAll_sh ((impl_server_sendAll_F args).getD default)) else none
theorem impl_server_sendAll_s_ok : ∀ args r, impl_server_sendAll_s args = some (true, r) → SumOk Try.prog tab 115 args r :=
  Base.sum (cfg := impl_server_sendAll_c) (F := impl_server_sendAll_F) (shr := impl_server_sendAll_sh) base impl_server_sendAll_c_ok Try.func115 (by kernel_rfl) impl_server_sendAll_lo impl_server_sendAll_A (by kernel_rfl) [] [q36] (by kernel_rfl) fun args h => by
    have q := impl_server_sendAll_e ((rd args 0).unbox)
    rw [show [(V.rf t_impl_server (l35 ((rd args 0).unbox)))] = args from h] at q
    exact q
def impl_server_follow_c : Cfg := ⟨tab, sumsOf [], fun _ => false, fun f => (look [] f).getD [], false, fun _ => false⟩
theorem impl_server_follow_c_ok : SumsOk Try.prog tab impl_server_follow_c.sums := sums_nil
abbrev impl_server_follow_L : Loops := noL
def impl_server_follow_sh (r_ : V) : V × List V := ((V.tup []), [(V.rf t_impl_server (l35 r_))])
theorem impl_server_follow_e (s : V) (term_ : Int) : Tot (wkF [] [q36]) impl_server_follow_sh (impl_server_follow s term_) (evalFn impl_server_follow_c impl_server_follow_L Try.f119 [(V.rf t_impl_server (l35 s)), (vi term_)]) := by
  have h : evalFn impl_server_follow_c impl_server_follow_L Try.f119 [(V.rf t_impl_server (l35 s)), (vi term_)] = (bif (decide ((gi s 1) < term_)) then some ((V.tup []), [(V.rf t_impl_server [(vi (gi s 0)), (vi term_), (vi (-1)), (V.rr t_impl_Item true (gl s 3)), (vi (gi s 4)), (vi 0), (vi (-1)), (vi (gi s 7)), (V.rr t_bool true ((List.replicate ((gl s 8).length) (V.bool false)) ++ ((gl s 8).drop (0 + ((gl s 8).length))))), (V.rr t_int' true ((List.replicate ((gl s 9).length) (vi 0)) ++ ((gl s 9).drop (0 + ((gl s 9).length))))), (V.rr t_int' true ((List.replicate ((gl s 10).length) (vi 0)) ++ ((gl s 10).drop (0 + ((gl s 10).length))))), (V.rr t_impl_Msg true (gl s 11))])]) else some ((V.tup []), [(V.rf t_impl_server [(vi (gi s 0)), (vi (gi s 1)), (vi (gi s 2)), (V.rr t_impl_Item true (gl s 3)), (vi (gi s 4)), (vi 0), (vi (gi s 6)), (vi (gi s 7)), (V.rr t_bool true ((List.replicate ((gl s 8).length) (V.bool false)) ++ ((gl s 8).drop (0 + ((gl s 8).length))))), (V.rr t_int' true ((List.replicate ((gl s 9).length) (vi 0)) ++ ((gl s 9).drop (0 + ((gl s 9).length))))), (V.rr t_int' true ((List.replicate ((gl s 10).length) (vi 0)) ++ ((gl s 10).drop (0 + ((gl s 10).length))))), (V.rr t_impl_Msg true (gl s 11))])])) := by kernel_rfl
  rw [h, impl_server_follow]
  clear h
  repeat' (first | refine A5 ?_ ?_ | refine A6 fun _ => ?_ | exact A7 (by kernel_rfl))
def impl_server_follow_A : List S2 := [(.rf t_impl_server q37), (.one (.int .i64))]
def impl_server_follow_F (args : List V) : V := impl_server_follow ((rd args 0).unbox) ((rd args 1).I)
def impl_server_follow_s (args : List V) : Option (Bool × (V × List V)) := bif argsOk impl_server_follow_A args then some (true, impl_server_follow_sh (impl_server_follow_F args)) else none
theorem impl_server_follow_s_ok : ∀ args r, impl_server_follow_s args = some (true, r) → SumOk Try.prog tab 119 args r :=
  Base.sumT (cfg := impl_server_follow_c) (F := impl_server_follow_F) (shr := impl_server_follow_sh) base impl_server_follow_c_ok Try.func119 (by kernel_rfl) noLo impl_server_follow_A (by kernel_rfl) [] [q36] (by kernel_rfl) fun args h => by
    have q := impl_server_follow_e ((rd args 0).unbox) ((rd args 1).I)
    rw [show [(V.rf t_impl_server (l35 ((rd args 0).unbox))), (vi ((rd args 1).I))] = args from h] at q
    exact q
def impl_Node_most_c : Cfg := ⟨tab, sumsOf [], fun _ => false, fun f => (look [] f).getD [], false, fun _ => false⟩
theorem impl_Node_most_c_ok : SumsOk Try.prog tab impl_Node_most_c.sums := sums_nil
abbrev impl_Node_most_L : Loops := noL
def impl_Node_most_sh (r_ : Bool) : V × List V := ((V.bool r_), [])
theorem impl_Node_most_e (n : V) (count : Int) : Tot (wkF [[.dead]] []) impl_Node_most_sh (impl_Node_most n count) (evalFn impl_Node_most_c impl_Node_most_L Try.f140 [(n_impl_Node n), (vi count)]) := by
  have h : evalFn impl_Node_most_c impl_Node_most_L Try.f140 [(n_impl_Node n), (vi count)] = (some ((V.bool (decide ((((gl n 8).length : Nat) : Int) < (w6 (2 * count))))), [])) := by kernel_rfl
  rw [h, impl_Node_most]
  clear h
  repeat' (first | refine A5 ?_ ?_ | refine A6 fun _ => ?_ | exact A7 (by kernel_rfl))
def impl_Node_most_A : List S2 := [(.agg q13), (.one (.int .i64))]
def impl_Node_most_F (args : List V) : Bool := impl_Node_most (rd args 0) ((rd args 1).I)
def impl_Node_most_s (args : List V) : Option (Bool × (V × List V)) := bif argsOk impl_Node_most_A args then some (true, impl_Node_most_sh (impl_Node_most_F args)) else none
theorem impl_Node_most_s_ok : ∀ args r, impl_Node_most_s args = some (true, r) → SumOk Try.prog tab 140 args r :=
  Base.sumT (cfg := impl_Node_most_c) (F := impl_Node_most_F) (shr := impl_Node_most_sh) base impl_Node_most_c_ok Try.func140 (by kernel_rfl) noLo impl_Node_most_A (by kernel_rfl) [[.dead]] [] (by kernel_rfl) fun args h => by
    have q := impl_Node_most_e (rd args 0) ((rd args 1).I)
    rw [show [(n_impl_Node (rd args 0)), (vi ((rd args 1).I))] = args from h] at q
    exact q
def impl_server_advance_c : Cfg := ⟨tab, sumsOf [(103, impl_Node_termAt_s), (140, impl_Node_most_s)], fun _ => false, fun f => (look [(103, [none, none]), (140, [none, none])] f).getD [], false, fun _ => false⟩
theorem impl_server_advance_c_ok : SumsOk Try.prog tab impl_server_advance_c.sums := sums_cons f103_en impl_Node_termAt_s_ok (sums_cons f140_en impl_Node_most_s_ok (sums_nil))
def impl_server_advance_l6_F (st : St) : Option (Int × Int × V × List V × List V × List V × List V × List V) := impl_server_advance_l6 ((((sv st 4).I) - ((sv st 5).I)).toNat + 1) ((sv st 1).I) ((sv st 2).I) ((sv st 4).I) ((sv st 5).I) (bc st 0) (br st 1) (br st 2) (br st 3) (br st 4) (br st 5)
def impl_server_advance_l6_ps (r_ : Int × Int × V × List V × List V × List V × List V × List V) : List (Ex × St) := [((Ex.exit 2), (⟨[(0, (V.bp 0 0)), (2, (vi r_.1)), (3, (vi r_.2.1))], [(0, some (Blk.box t_impl_server (l38 r_.2.2.1))), (1, some (Blk.row t_impl_Item true r_.2.2.2.1)), (2, some (Blk.row t_bool true r_.2.2.2.2.1)), (3, some (Blk.row t_int' true r_.2.2.2.2.2.1)), (4, some (Blk.row t_int' true r_.2.2.2.2.2.2.1)), (5, some (Blk.row t_impl_Msg true r_.2.2.2.2.2.2.2))], 6, [0]⟩ : St))]
def impl_server_advance_l6_ss : SS := ⟨[(0, (.one (.bp 0 0))), (2, (.one (.int .i64))), (3, (.one (.int .i64))), (60, (.one (.sl 1 t_int'))), (61, (.one (.int .i64))), (62, (.one (.int .i64)))], [(.box t_impl_server q42), (.row t_int' true), (.row t_impl_Item true), (.row t_bool true), (.row t_int' true), (.row t_impl_Msg true)], 6, [0]⟩
def impl_server_advance_l6_e : LE := ⟨6, impl_server_advance_l6_ss, fun st => Out.tst (impl_server_advance_l6_F st).isSome (brs ((fun r_ => 0) ((impl_server_advance_l6_F st).getD default)) 0 (impl_server_advance_l6_ps ((impl_server_advance_l6_F st).getD default)))⟩
def impl_server_advance_l2_F (st : St) : Option (Nat × V × List V × List V × List V × List V × List V) := impl_server_advance_l2 ((((sv st 1).I) - (gi (bc st 0) 4)).toNat + 1) ((sv st 1).I) (bc st 0) (br st 1) (br st 2) (br st 3) (br st 4) (br st 5)
def impl_server_advance_l2_ps (r_ : Nat × V × List V × List V × List V × List V × List V) : List (Ex × St) := [(Ex.ret, (⟨[], [(0, some (Blk.box t_impl_server (l38 r_.2.1))), (1, some (Blk.row t_impl_Item true r_.2.2.1)), (2, some (Blk.row t_bool true r_.2.2.2.1)), (3, some (Blk.row t_int' true r_.2.2.2.2.1)), (4, some (Blk.row t_int' true r_.2.2.2.2.2.1)), (5, some (Blk.row t_impl_Msg true r_.2.2.2.2.2.2))], 6, [0]⟩ : St)), ((Ex.exit 0), (⟨[], [(0, some (Blk.box t_impl_server (l38 r_.2.1))), (1, some (Blk.row t_impl_Item true r_.2.2.1)), (2, some (Blk.row t_bool true r_.2.2.2.1)), (3, some (Blk.row t_int' true r_.2.2.2.2.1)), (4, some (Blk.row t_int' true r_.2.2.2.2.2.1)), (5, some (Blk.row t_impl_Msg true r_.2.2.2.2.2.2))], 6, [0]⟩ : St))]
def impl_server_advance_l2_ss : SS := ⟨[(0, (.one (.bp 0 0))), (2, (.one (.int .i64)))], [(.box t_impl_server q43), (.row t_impl_Item true), (.row t_bool true), (.row t_int' true), (.row t_int' true), (.row t_impl_Msg true)], 6, [0]⟩
def impl_server_advance_l2_e : LE := ⟨2, impl_server_advance_l2_ss, fun st => Out.tst (impl_server_advance_l2_F st).isSome (brs ((fun r_ => r_.1) ((impl_server_advance_l2_F st).getD default)) 0 (impl_server_advance_l2_ps ((impl_server_advance_l2_F st).getD default)))⟩
def impl_server_advance_L : Loops := ⟨fun k => (look [(2, [0, 2]), (6, [0, 2, 3, 60, 61, 62])] k).getD [], fun k => (look [] k).getD [], fun k => (look [(2, []), (6, [0, 2, 3])] k).getD [], runL [impl_server_advance_l6_e, impl_server_advance_l2_e]⟩
theorem impl_server_advance_l6_ok (k_ : Nat) : ∀ (place2 : Int) (count3 : Int) (v61 : Int) (v62 : Int) (b0 : V) (r1 : List V) (r2 : List V) (r3 : List V) (r4 : List V) (r5 : List V), Agr id (fun r_ => pick (0) 0 (impl_server_advance_l6_ps r_)) (impl_server_advance_l6 k_ place2 count3 v61 v62 b0 r1 r2 r3 r4 r5) (rounds impl_server_advance_c impl_server_advance_L ((loopsIn (bodyOf Try.f114)).getD 1 .skip) k_ (⟨[(0, (V.bp 0 0)), (2, (vi place2)), (3, (vi count3)), (60, (vs 1 t_int')), (61, (vi v61)), (62, (vi v62))], [(0, some (Blk.box t_impl_server (l44 b0))), (1, some (Blk.row t_int' true r1)), (2, some (Blk.row t_impl_Item true r2)), (3, some (Blk.row t_bool true r3)), (4, some (Blk.row t_int' true r4)), (5, some (Blk.row t_impl_Msg true r5))], 6, [0]⟩ : St)) := by
  induction k_ with
  | zero => intros; exact A0
  | succ k_ ih =>
    intro place2 count3 v61 v62 b0 r1 r2 r3 r4 r5
    have h : rounds impl_server_advance_c impl_server_advance_L ((loopsIn (bodyOf Try.f114)).getD 1 .skip) (k_ + 1) (⟨[(0, (V.bp 0 0)), (2, (vi place2)), (3, (vi count3)), (60, (vs 1 t_int')), (61, (vi v61)), (62, (vi v62))], [(0, some (Blk.box t_impl_server (l44 b0))), (1, some (Blk.row t_int' true r1)), (2, some (Blk.row t_impl_Item true r2)), (3, some (Blk.row t_bool true r3)), (4, some (Blk.row t_int' true r4)), (5, some (Blk.row t_impl_Msg true r5))], 6, [0]⟩ : St) = (bif (decide (v62 < v61)) then bif (idxOk v62 r1.length) then bif (decide (place2 ≤ (gi (rd r1 (0 + v62.toNat)) 0))) then rounds impl_server_advance_c impl_server_advance_L ((loopsIn (bodyOf Try.f114)).getD 1 .skip) k_ (⟨[(0, (V.bp 0 0)), (2, (vi place2)), (3, (vi (w6 (count3 + 1)))), (60, (vs 1 t_int')), (61, (vi v61)), (62, (vi (w6 (v62 + 1))))], [(0, some (Blk.box t_impl_server (l44 b0))), (1, some (Blk.row t_int' true r1)), (2, some (Blk.row t_impl_Item true r2)), (3, some (Blk.row t_bool true r3)), (4, some (Blk.row t_int' true r4)), (5, some (Blk.row t_impl_Msg true r5))], 6, [0]⟩ : St) else rounds impl_server_advance_c impl_server_advance_L ((loopsIn (bodyOf Try.f114)).getD 1 .skip) k_ (⟨[(0, (V.bp 0 0)), (2, (vi place2)), (3, (vi count3)), (60, (vs 1 t_int')), (61, (vi v61)), (62, (vi (w6 (v62 + 1))))], [(0, some (Blk.box t_impl_server (l44 b0))), (1, some (Blk.row t_int' true r1)), (2, some (Blk.row t_impl_Item true r2)), (3, some (Blk.row t_bool true r3)), (4, some (Blk.row t_int' true r4)), (5, some (Blk.row t_impl_Msg true r5))], 6, [0]⟩ : St) else none else some ((Ex.exit 2), (⟨[(0, (V.bp 0 0)), (2, (vi place2)), (3, (vi count3))], [(0, some (Blk.box t_impl_server (l38 b0))), (1, some (Blk.row t_impl_Item true r2)), (2, some (Blk.row t_bool true r3)), (3, some (Blk.row t_int' true r4)), (4, some (Blk.row t_int' true r1)), (5, some (Blk.row t_impl_Msg true r5))], 6, [0]⟩ : St))) := by kernel_rfl
    rw [h, impl_server_advance_l6]
    clear h
    repeat' (first | exact A0 | refine A1 ?_ ?_ | refine A2 fun _ => ?_ | refine A3 fun _ => ?_ | exact A4 (by kernel_rfl) | exact ih _ _ _ _ _ _ _ _ _ _)
theorem impl_server_advance_l2_ok (k_ : Nat) : ∀ (place2 : Int) (b0 : V) (r1 : List V) (r2 : List V) (r3 : List V) (r4 : List V) (r5 : List V), Agr id (fun r_ => pick (r_.1) 0 (impl_server_advance_l2_ps r_)) (impl_server_advance_l2 k_ place2 b0 r1 r2 r3 r4 r5) (rounds impl_server_advance_c impl_server_advance_L ((loopsIn (bodyOf Try.f114)).getD 0 .skip) k_ (⟨[(0, (V.bp 0 0)), (2, (vi place2))], [(0, some (Blk.box t_impl_server (l38 b0))), (1, some (Blk.row t_impl_Item true r1)), (2, some (Blk.row t_bool true r2)), (3, some (Blk.row t_int' true r3)), (4, some (Blk.row t_int' true r4)), (5, some (Blk.row t_impl_Msg true r5))], 6, [0]⟩ : St)) := by
  induction k_ with
  | zero => intros; exact A0
  | succ k_ ih =>
    intro place2 b0 r1 r2 r3 r4 r5
    have h : rounds impl_server_advance_c impl_server_advance_L ((loopsIn (bodyOf Try.f114)).getD 0 .skip) (k_ + 1) (⟨[(0, (V.bp 0 0)), (2, (vi place2))], [(0, some (Blk.box t_impl_server (l38 b0))), (1, some (Blk.row t_impl_Item true r1)), (2, some (Blk.row t_bool true r2)), (3, some (Blk.row t_int' true r3)), (4, some (Blk.row t_int' true r4)), (5, some (Blk.row t_impl_Msg true r5))], 6, [0]⟩ : St) = (bif (decide ((gi b0 4) < place2)) then rcall (impl_server_advance_l6 (((ln r4) - 0).toNat + 1) place2 0 (ln r4) 0 (h45 b0) r4 r1 r2 r3 r5) fun r125 => rcall (impl_Node_termAt (V.agg [(vi (gi r125.2.2.1 0)), (vi (gi r125.2.2.1 1)), (vi (gi r125.2.2.1 2)), (V.inl t_impl_Item r125.2.2.2.1), (vi (gi r125.2.2.1 4)), (vi (gi r125.2.2.1 5)), (vi (gi r125.2.2.1 6)), (vi (gi r125.2.2.1 7)), (V.inl t_bool r125.2.2.2.2.1), (V.inl t_int' r125.2.2.2.2.2.1), (V.inl t_int' r125.2.2.2.2.2.2.1)]) r125.1) fun r126 => bif (decide (r126 = (gi r125.2.2.1 1))) then bif impl_Node_most (V.agg [(vi (gi r125.2.2.1 0)), (vi (gi r125.2.2.1 1)), (vi (gi r125.2.2.1 2)), (V.inl t_impl_Item r125.2.2.2.1), (vi (gi r125.2.2.1 4)), (vi (gi r125.2.2.1 5)), (vi (gi r125.2.2.1 6)), (vi (gi r125.2.2.1 7)), (V.inl t_bool r125.2.2.2.2.1), (V.inl t_int' r125.2.2.2.2.2.1), (V.inl t_int' r125.2.2.2.2.2.2.1)]) r125.2.1 then some (Ex.ret, (⟨[], [(0, some (Blk.box t_impl_server [(vi (gi r125.2.2.1 0)), (vi (gi r125.2.2.1 1)), (vi (gi r125.2.2.1 2)), (vs 1 t_impl_Item), (vi r125.1), (vi (gi r125.2.2.1 5)), (vi (gi r125.2.2.1 6)), (vi (gi r125.2.2.1 7)), (vs 2 t_bool), (vs 3 t_int'), (vs 4 t_int'), (vs 5 t_impl_Msg)])), (1, some (Blk.row t_impl_Item true r125.2.2.2.1)), (2, some (Blk.row t_bool true r125.2.2.2.2.1)), (3, some (Blk.row t_int' true r125.2.2.2.2.2.1)), (4, some (Blk.row t_int' true r125.2.2.2.2.2.2.1)), (5, some (Blk.row t_impl_Msg true r125.2.2.2.2.2.2.2))], 6, [0]⟩ : St)) else rounds impl_server_advance_c impl_server_advance_L ((loopsIn (bodyOf Try.f114)).getD 0 .skip) k_ (⟨[(0, (V.bp 0 0)), (2, (vi (w6 (r125.1 - 1))))], [(0, some (Blk.box t_impl_server (l38 r125.2.2.1))), (1, some (Blk.row t_impl_Item true r125.2.2.2.1)), (2, some (Blk.row t_bool true r125.2.2.2.2.1)), (3, some (Blk.row t_int' true r125.2.2.2.2.2.1)), (4, some (Blk.row t_int' true r125.2.2.2.2.2.2.1)), (5, some (Blk.row t_impl_Msg true r125.2.2.2.2.2.2.2))], 6, [0]⟩ : St) else rounds impl_server_advance_c impl_server_advance_L ((loopsIn (bodyOf Try.f114)).getD 0 .skip) k_ (⟨[(0, (V.bp 0 0)), (2, (vi (w6 (r125.1 - 1))))], [(0, some (Blk.box t_impl_server (l38 r125.2.2.1))), (1, some (Blk.row t_impl_Item true r125.2.2.2.1)), (2, some (Blk.row t_bool true r125.2.2.2.2.1)), (3, some (Blk.row t_int' true r125.2.2.2.2.2.1)), (4, some (Blk.row t_int' true r125.2.2.2.2.2.2.1)), (5, some (Blk.row t_impl_Msg true r125.2.2.2.2.2.2.2))], 6, [0]⟩ : St) else some ((Ex.exit 0), (⟨[], [(0, some (Blk.box t_impl_server (l38 b0))), (1, some (Blk.row t_impl_Item true r1)), (2, some (Blk.row t_bool true r2)), (3, some (Blk.row t_int' true r3)), (4, some (Blk.row t_int' true r4)), (5, some (Blk.row t_impl_Msg true r5))], 6, [0]⟩ : St))) := by kernel_rfl
    rw [h, impl_server_advance_l2]
    clear h
    repeat' (first | exact A0 | refine A1 ?_ ?_ | refine A2 fun _ => ?_ | refine A3 fun _ => ?_ | exact A4 (by kernel_rfl) | exact ih _ _ _ _ _ _ _)
theorem impl_server_advance_lo : LoopsOk impl_server_advance_c impl_server_advance_L (bodyOf Try.f114) := by
  refine GoodAll.ok (l := [impl_server_advance_l6_e, impl_server_advance_l2_e]) ?_ rfl
  refine GoodAll.cons 1 (by kernel_rfl) ?_ ?_
  · exact good_of (key := 6) (ss := impl_server_advance_l6_ss) (F := impl_server_advance_l6_F) (ix := fun r_ => 0) (ps := impl_server_advance_l6_ps) (fun st => (((sv st 4).I) - ((sv st 5).I)).toNat + 1) fun st h => by
      have q := impl_server_advance_l6_ok ((((sv st 4).I) - ((sv st 5).I)).toNat + 1) ((sv st 1).I) ((sv st 2).I) ((sv st 4).I) ((sv st 5).I) (bc st 0) (br st 1) (br st 2) (br st 3) (br st 4) (br st 5)
      rw [show (⟨[(0, (V.bp 0 0)), (2, (vi ((sv st 1).I))), (3, (vi ((sv st 2).I))), (60, (vs 1 t_int')), (61, (vi ((sv st 4).I))), (62, (vi ((sv st 5).I)))], [(0, some (Blk.box t_impl_server (l44 (bc st 0)))), (1, some (Blk.row t_int' true (br st 1))), (2, some (Blk.row t_impl_Item true (br st 2))), (3, some (Blk.row t_bool true (br st 3))), (4, some (Blk.row t_int' true (br st 4))), (5, some (Blk.row t_impl_Msg true (br st 5)))], 6, [0]⟩ : St) = st from h] at q
      exact q
  refine GoodAll.cons 0 (by kernel_rfl) ?_ ?_
  · exact good_of (key := 2) (ss := impl_server_advance_l2_ss) (F := impl_server_advance_l2_F) (ix := fun r_ => r_.1) (ps := impl_server_advance_l2_ps) (fun st => (((sv st 1).I) - (gi (bc st 0) 4)).toNat + 1) fun st h => by
      have q := impl_server_advance_l2_ok ((((sv st 1).I) - (gi (bc st 0) 4)).toNat + 1) ((sv st 1).I) (bc st 0) (br st 1) (br st 2) (br st 3) (br st 4) (br st 5)
      rw [show (⟨[(0, (V.bp 0 0)), (2, (vi ((sv st 1).I)))], [(0, some (Blk.box t_impl_server (l38 (bc st 0)))), (1, some (Blk.row t_impl_Item true (br st 1))), (2, some (Blk.row t_bool true (br st 2))), (3, some (Blk.row t_int' true (br st 3))), (4, some (Blk.row t_int' true (br st 4))), (5, some (Blk.row t_impl_Msg true (br st 5)))], 6, [0]⟩ : St) = st from h] at q
      exact q
  exact GoodAll.nil
def impl_server_advance_sh (r_ : V) : V × List V := ((V.tup []), [(V.rf t_impl_server (l35 r_))])
theorem impl_server_advance_e (s : V) : Agr (wkF [] [q36]) impl_server_advance_sh (impl_server_advance s) (evalFn impl_server_advance_c impl_server_advance_L Try.f114 [(V.rf t_impl_server (l35 s))]) := by
  have h : evalFn impl_server_advance_c impl_server_advance_L Try.f114 [(V.rf t_impl_server (l35 s))] = (bif (idxOk (gi s 0) ((gl s 10).length)) then bif (idxOk (gi s 0) ((gl s 9).length)) then rcall (impl_server_advance_l2 (((((gl s 3).length : Nat) : Int) - (gi (h46 s) 4)).toNat + 1) (((gl s 3).length : Nat) : Int) (h46 s) (gl s 3) (gl s 8) ((gl s 9).set (0 + ((gi s 0).toNat)) (vi (w6 ((((gl s 3).length : Nat) : Int) + 1)))) ((gl s 10).set (0 + ((gi s 0).toNat)) (vi (((gl s 3).length : Nat) : Int))) (gl s 11)) fun r127 => bif (Nat.beq r127.1 0) then some ((V.tup []), [(V.rf t_impl_server [(vi (gi r127.2.1 0)), (vi (gi r127.2.1 1)), (vi (gi r127.2.1 2)), (V.rr t_impl_Item true r127.2.2.1), (vi (gi r127.2.1 4)), (vi (gi r127.2.1 5)), (vi (gi r127.2.1 6)), (vi (gi r127.2.1 7)), (V.rr t_bool true r127.2.2.2.1), (V.rr t_int' true r127.2.2.2.2.1), (V.rr t_int' true r127.2.2.2.2.2.1), (V.rr t_impl_Msg true r127.2.2.2.2.2.2)])]) else some ((V.tup []), [(V.rf t_impl_server [(vi (gi r127.2.1 0)), (vi (gi r127.2.1 1)), (vi (gi r127.2.1 2)), (V.rr t_impl_Item true r127.2.2.1), (vi (gi r127.2.1 4)), (vi (gi r127.2.1 5)), (vi (gi r127.2.1 6)), (vi (gi r127.2.1 7)), (V.rr t_bool true r127.2.2.2.1), (V.rr t_int' true r127.2.2.2.2.1), (V.rr t_int' true r127.2.2.2.2.2.1), (V.rr t_impl_Msg true r127.2.2.2.2.2.2)])]) else none else none) := by kernel_rfl
  rw [h, impl_server_advance]
  clear h
  repeat' (first | exact A0 | refine A1 ?_ ?_ | refine A2 fun _ => ?_ | refine A3 fun _ => ?_ | exact A4 (by kernel_rfl))
def impl_server_advance_A : List S2 := [(.rf t_impl_server q37)]
def impl_server_advance_F (args : List V) : Option (V) := impl_server_advance ((rd args 0).unbox)
def impl_server_advance_s (args : List V) : Option (Bool × (V × List V)) := bif argsOk impl_server_advance_A args then some ((impl_server_advance_F args).isSome, impl_server_advance_sh ((impl_server_advance_F args).getD default)) else none
theorem impl_server_advance_s_ok : ∀ args r, impl_server_advance_s args = some (true, r) → SumOk Try.prog tab 114 args r :=
  Base.sum (cfg := impl_server_advance_c) (F := impl_server_advance_F) (shr := impl_server_advance_sh) base impl_server_advance_c_ok Try.func114 (by kernel_rfl) impl_server_advance_lo impl_server_advance_A (by kernel_rfl) [] [q36] (by kernel_rfl) fun args h => by
    have q := impl_server_advance_e ((rd args 0).unbox)
    rw [show [(V.rf t_impl_server (l35 ((rd args 0).unbox)))] = args from h] at q
    exact q
end Go.Eng.R
open Go Go.Eng Go.Proofs
namespace Go.Eng.R
def impl_server_lead_c : Cfg := ⟨tab, sumsOf [(140, impl_Node_most_s), (110, impl_noOp_s), (114, impl_server_advance_s), (115, impl_server_sendAll_s)], fun _ => false, fun f => (look [(140, [none, none]), (110, []), (114, [none]), (115, [none])] f).getD [], false, fun _ => false⟩
theorem impl_server_lead_c_ok : SumsOk Try.prog tab impl_server_lead_c.sums := sums_cons f140_en impl_Node_most_s_ok (sums_cons f110_en impl_noOp_s_ok (sums_cons f114_en impl_server_advance_s_ok (sums_cons f115_en impl_server_sendAll_s_ok (sums_nil))))
def impl_server_lead_l2_F (st : St) : Option (Int × V × List V × List V × List V × List V × List V) := impl_server_lead_l2 ((((sv st 3).I) - ((sv st 4).I)).toNat + 1) ((sv st 1).I) ((sv st 3).I) ((sv st 4).I) (bc st 0) (br st 1) (br st 2) (br st 3) (br st 4) (br st 5)
def impl_server_lead_l2_ps (r_ : Int × V × List V × List V × List V × List V × List V) : List (Ex × St) := [((Ex.exit 0), (⟨[(0, (V.bp 0 0)), (2, (vi r_.1))], [(0, some (Blk.box t_impl_server (l38 r_.2.1))), (1, some (Blk.row t_impl_Item true r_.2.2.1)), (2, some (Blk.row t_bool true r_.2.2.2.1)), (3, some (Blk.row t_int' true r_.2.2.2.2.1)), (4, some (Blk.row t_int' true r_.2.2.2.2.2.1)), (5, some (Blk.row t_impl_Msg true r_.2.2.2.2.2.2))], 6, [0]⟩ : St))]
def impl_server_lead_l2_ss : SS := ⟨[(0, (.one (.bp 0 0))), (2, (.one (.int .i64))), (10, (.one (.sl 1 t_bool))), (11, (.one (.int .i64))), (12, (.one (.int .i64)))], [(.box t_impl_server q47), (.row t_bool true), (.row t_impl_Item true), (.row t_int' true), (.row t_int' true), (.row t_impl_Msg true)], 6, [0]⟩
def impl_server_lead_l2_e : LE := ⟨2, impl_server_lead_l2_ss, fun st => Out.tst (impl_server_lead_l2_F st).isSome (brs ((fun r_ => 0) ((impl_server_lead_l2_F st).getD default)) 0 (impl_server_lead_l2_ps ((impl_server_lead_l2_F st).getD default)))⟩
def impl_server_lead_l10_F (st : St) : Option (V × List V × List V × List V × List V × List V) := impl_server_lead_l10 ((((sv st 1).I) - ((sv st 2).I)).toNat + 1) ((sv st 1).I) ((sv st 2).I) (bc st 0) (br st 1) (br st 2) (br st 3) (br st 4) (br st 5)
def impl_server_lead_l10_ps (r_ : V × List V × List V × List V × List V × List V) : List (Ex × St) := [((Ex.exit 2), (⟨[(0, (V.bp 0 0))], [(0, some (Blk.box t_impl_server (l38 r_.1))), (1, some (Blk.row t_impl_Item true r_.2.1)), (2, some (Blk.row t_bool true r_.2.2.1)), (3, some (Blk.row t_int' true r_.2.2.2.1)), (4, some (Blk.row t_int' true r_.2.2.2.2.1)), (5, some (Blk.row t_impl_Msg true r_.2.2.2.2.2))], 6, [0]⟩ : St))]
def impl_server_lead_l10_ss : SS := ⟨[(0, (.one (.bp 0 0))), (49, (.one (.int .i64))), (50, (.one (.int .i64)))], [(.box t_impl_server q43), (.row t_impl_Item true), (.row t_bool true), (.row t_int' true), (.row t_int' true), (.row t_impl_Msg true)], 6, [0]⟩
def impl_server_lead_l10_e : LE := ⟨10, impl_server_lead_l10_ss, fun st => Out.tst (impl_server_lead_l10_F st).isSome (brs ((fun r_ => 0) ((impl_server_lead_l10_F st).getD default)) 0 (impl_server_lead_l10_ps ((impl_server_lead_l10_F st).getD default)))⟩
def impl_server_lead_L : Loops := ⟨fun k => (look [(2, [0, 2, 10, 11, 12]), (10, [0, 49, 50])] k).getD [], fun k => (look [] k).getD [], fun k => (look [(2, [0, 2]), (10, [0])] k).getD [], runL [impl_server_lead_l2_e, impl_server_lead_l10_e]⟩
theorem impl_server_lead_l2_ok (k_ : Nat) : ∀ (count2 : Int) (v11 : Int) (v12 : Int) (b0 : V) (r1 : List V) (r2 : List V) (r3 : List V) (r4 : List V) (r5 : List V), Agr id (fun r_ => pick (0) 0 (impl_server_lead_l2_ps r_)) (impl_server_lead_l2 k_ count2 v11 v12 b0 r1 r2 r3 r4 r5) (rounds impl_server_lead_c impl_server_lead_L ((loopsIn (bodyOf Try.f120)).getD 0 .skip) k_ (⟨[(0, (V.bp 0 0)), (2, (vi count2)), (10, (vs 1 t_bool)), (11, (vi v11)), (12, (vi v12))], [(0, some (Blk.box t_impl_server (l48 b0))), (1, some (Blk.row t_bool true r1)), (2, some (Blk.row t_impl_Item true r2)), (3, some (Blk.row t_int' true r3)), (4, some (Blk.row t_int' true r4)), (5, some (Blk.row t_impl_Msg true r5))], 6, [0]⟩ : St)) := by
  induction k_ with
  | zero => intros; exact A0
  | succ k_ ih =>
    intro count2 v11 v12 b0 r1 r2 r3 r4 r5
    have h : rounds impl_server_lead_c impl_server_lead_L ((loopsIn (bodyOf Try.f120)).getD 0 .skip) (k_ + 1) (⟨[(0, (V.bp 0 0)), (2, (vi count2)), (10, (vs 1 t_bool)), (11, (vi v11)), (12, (vi v12))], [(0, some (Blk.box t_impl_server (l48 b0))), (1, some (Blk.row t_bool true r1)), (2, some (Blk.row t_impl_Item true r2)), (3, some (Blk.row t_int' true r3)), (4, some (Blk.row t_int' true r4)), (5, some (Blk.row t_impl_Msg true r5))], 6, [0]⟩ : St) = (bif (decide (v12 < v11)) then bif (idxOk v12 r1.length) then bif (gb (rd r1 (0 + v12.toNat)) 0) then rounds impl_server_lead_c impl_server_lead_L ((loopsIn (bodyOf Try.f120)).getD 0 .skip) k_ (⟨[(0, (V.bp 0 0)), (2, (vi (w6 (count2 + 1)))), (10, (vs 1 t_bool)), (11, (vi v11)), (12, (vi (w6 (v12 + 1))))], [(0, some (Blk.box t_impl_server (l48 b0))), (1, some (Blk.row t_bool true r1)), (2, some (Blk.row t_impl_Item true r2)), (3, some (Blk.row t_int' true r3)), (4, some (Blk.row t_int' true r4)), (5, some (Blk.row t_impl_Msg true r5))], 6, [0]⟩ : St) else rounds impl_server_lead_c impl_server_lead_L ((loopsIn (bodyOf Try.f120)).getD 0 .skip) k_ (⟨[(0, (V.bp 0 0)), (2, (vi count2)), (10, (vs 1 t_bool)), (11, (vi v11)), (12, (vi (w6 (v12 + 1))))], [(0, some (Blk.box t_impl_server (l48 b0))), (1, some (Blk.row t_bool true r1)), (2, some (Blk.row t_impl_Item true r2)), (3, some (Blk.row t_int' true r3)), (4, some (Blk.row t_int' true r4)), (5, some (Blk.row t_impl_Msg true r5))], 6, [0]⟩ : St) else none else some ((Ex.exit 0), (⟨[(0, (V.bp 0 0)), (2, (vi count2))], [(0, some (Blk.box t_impl_server (l38 b0))), (1, some (Blk.row t_impl_Item true r2)), (2, some (Blk.row t_bool true r1)), (3, some (Blk.row t_int' true r3)), (4, some (Blk.row t_int' true r4)), (5, some (Blk.row t_impl_Msg true r5))], 6, [0]⟩ : St))) := by kernel_rfl
    rw [h, impl_server_lead_l2]
    clear h
    repeat' (first | exact A0 | refine A1 ?_ ?_ | refine A2 fun _ => ?_ | refine A3 fun _ => ?_ | exact A4 (by kernel_rfl) | exact ih _ _ _ _ _ _ _ _ _)
theorem impl_server_lead_l10_ok (k_ : Nat) : ∀ (v49 : Int) (v50 : Int) (b0 : V) (r1 : List V) (r2 : List V) (r3 : List V) (r4 : List V) (r5 : List V), Agr id (fun r_ => pick (0) 0 (impl_server_lead_l10_ps r_)) (impl_server_lead_l10 k_ v49 v50 b0 r1 r2 r3 r4 r5) (rounds impl_server_lead_c impl_server_lead_L ((loopsIn (bodyOf Try.f120)).getD 1 .skip) k_ (⟨[(0, (V.bp 0 0)), (49, (vi v49)), (50, (vi v50))], [(0, some (Blk.box t_impl_server (l38 b0))), (1, some (Blk.row t_impl_Item true r1)), (2, some (Blk.row t_bool true r2)), (3, some (Blk.row t_int' true r3)), (4, some (Blk.row t_int' true r4)), (5, some (Blk.row t_impl_Msg true r5))], 6, [0]⟩ : St)) := by
  induction k_ with
  | zero => intros; exact A0
  | succ k_ ih =>
    intro v49 v50 b0 r1 r2 r3 r4 r5
    have h : rounds impl_server_lead_c impl_server_lead_L ((loopsIn (bodyOf Try.f120)).getD 1 .skip) (k_ + 1) (⟨[(0, (V.bp 0 0)), (49, (vi v49)), (50, (vi v50))], [(0, some (Blk.box t_impl_server (l38 b0))), (1, some (Blk.row t_impl_Item true r1)), (2, some (Blk.row t_bool true r2)), (3, some (Blk.row t_int' true r3)), (4, some (Blk.row t_int' true r4)), (5, some (Blk.row t_impl_Msg true r5))], 6, [0]⟩ : St) = (bif (decide (v50 < v49)) then bif (idxOk v50 r3.length) then bif (idxOk v50 r4.length) then rounds impl_server_lead_c impl_server_lead_L ((loopsIn (bodyOf Try.f120)).getD 1 .skip) k_ (⟨[(0, (V.bp 0 0)), (49, (vi v49)), (50, (vi (w6 (v50 + 1))))], [(0, some (Blk.box t_impl_server (l38 b0))), (1, some (Blk.row t_impl_Item true r1)), (2, some (Blk.row t_bool true r2)), (3, some (Blk.row t_int' true (r3.set (0 + v50.toNat) (vi (w6 ((ln r1) + 1)))))), (4, some (Blk.row t_int' true (r4.set (0 + v50.toNat) (vi 0)))), (5, some (Blk.row t_impl_Msg true r5))], 6, [0]⟩ : St) else none else none else some ((Ex.exit 2), (⟨[(0, (V.bp 0 0))], [(0, some (Blk.box t_impl_server (l38 b0))), (1, some (Blk.row t_impl_Item true r1)), (2, some (Blk.row t_bool true r2)), (3, some (Blk.row t_int' true r3)), (4, some (Blk.row t_int' true r4)), (5, some (Blk.row t_impl_Msg true r5))], 6, [0]⟩ : St))) := by kernel_rfl
    rw [h, impl_server_lead_l10]
    clear h
    repeat' (first | exact A0 | refine A1 ?_ ?_ | refine A2 fun _ => ?_ | refine A3 fun _ => ?_ | exact A4 (by kernel_rfl) | exact ih _ _ _ _ _ _ _ _)
theorem impl_server_lead_lo : LoopsOk impl_server_lead_c impl_server_lead_L (bodyOf Try.f120) := by
  refine GoodAll.ok (l := [impl_server_lead_l2_e, impl_server_lead_l10_e]) ?_ rfl
  refine GoodAll.cons 0 (by kernel_rfl) ?_ ?_
  · exact good_of (key := 2) (ss := impl_server_lead_l2_ss) (F := impl_server_lead_l2_F) (ix := fun r_ => 0) (ps := impl_server_lead_l2_ps) (fun st => (((sv st 3).I) - ((sv st 4).I)).toNat + 1) fun st h => by
      have q := impl_server_lead_l2_ok ((((sv st 3).I) - ((sv st 4).I)).toNat + 1) ((sv st 1).I) ((sv st 3).I) ((sv st 4).I) (bc st 0) (br st 1) (br st 2) (br st 3) (br st 4) (br st 5)
      rw [show (⟨[(0, (V.bp 0 0)), (2, (vi ((sv st 1).I))), (10, (vs 1 t_bool)), (11, (vi ((sv st 3).I))), (12, (vi ((sv st 4).I)))], [(0, some (Blk.box t_impl_server (l48 (bc st 0)))), (1, some (Blk.row t_bool true (br st 1))), (2, some (Blk.row t_impl_Item true (br st 2))), (3, some (Blk.row t_int' true (br st 3))), (4, some (Blk.row t_int' true (br st 4))), (5, some (Blk.row t_impl_Msg true (br st 5)))], 6, [0]⟩ : St) = st from h] at q
      exact q
  refine GoodAll.cons 1 (by kernel_rfl) ?_ ?_
  · exact good_of (key := 10) (ss := impl_server_lead_l10_ss) (F := impl_server_lead_l10_F) (ix := fun r_ => 0) (ps := impl_server_lead_l10_ps) (fun st => (((sv st 1).I) - ((sv st 2).I)).toNat + 1) fun st h => by
      have q := impl_server_lead_l10_ok ((((sv st 1).I) - ((sv st 2).I)).toNat + 1) ((sv st 1).I) ((sv st 2).I) (bc st 0) (br st 1) (br st 2) (br st 3) (br st 4) (br st 5)
      rw [show (⟨[(0, (V.bp 0 0)), (49, (vi ((sv st 1).I))), (50, (vi ((sv st 2).I)))], [(0, some (Blk.box t_impl_server (l38 (bc st 0)))), (1, some (Blk.row t_impl_Item true (br st 1))), (2, some (Blk.row t_bool true (br st 2))), (3, some (Blk.row t_int' true (br st 3))), (4, some (Blk.row t_int' true (br st 4))), (5, some (Blk.row t_impl_Msg true (br st 5)))], 6, [0]⟩ : St) = st from h] at q
      exact q
  exact GoodAll.nil
def impl_server_lead_sh (r_ : V) : V × List V := ((V.tup []), [(V.rf t_impl_server (l35 r_))])
set_option maxRecDepth 100000 in
theorem impl_server_lead_e (s : V) : Agr (wkF [] [q36]) impl_server_lead_sh (impl_server_lead s) (evalFn impl_server_lead_c impl_server_lead_L Try.f120 [(V.rf t_impl_server (l35 s))]) := by
  have h : evalFn impl_server_lead_c impl_server_lead_L Try.f120 [(V.rf t_impl_server (l35 s))] = (rcall (impl_server_lead_l2 (((((gl s 8).length : Nat) : Int) - 0).toNat + 1) 0 (((gl s 8).length : Nat) : Int) 0 (h49 s) (gl s 8) (gl s 3) (gl s 9) (gl s 10) (gl s 11)) fun r123 => bif (!(impl_Node_most (V.agg [(vi (gi r123.2.1 0)), (vi (gi r123.2.1 1)), (vi (gi r123.2.1 2)), (V.inl t_impl_Item r123.2.2.1), (vi (gi r123.2.1 4)), (vi (gi r123.2.1 5)), (vi (gi r123.2.1 6)), (vi (gi r123.2.1 7)), (V.inl t_bool r123.2.2.2.1), (V.inl t_int' r123.2.2.2.2.1), (V.inl t_int' r123.2.2.2.2.2.1)]) r123.1)) then some ((V.tup []), [(V.rf t_impl_server [(vi (gi r123.2.1 0)), (vi (gi r123.2.1 1)), (vi (gi r123.2.1 2)), (V.rr t_impl_Item true r123.2.2.1), (vi (gi r123.2.1 4)), (vi (gi r123.2.1 5)), (vi (gi r123.2.1 6)), (vi (gi r123.2.1 7)), (V.rr t_bool true r123.2.2.2.1), (V.rr t_int' true r123.2.2.2.2.1), (V.rr t_int' true r123.2.2.2.2.2.1), (V.rr t_impl_Msg true r123.2.2.2.2.2.2)])]) else rcall (impl_server_lead_l10 (((ln r123.2.2.2.2.1) - 0).toNat + 1) (ln r123.2.2.2.2.1) 0 (V.agg [(vi (gi r123.2.1 0)), (vi (gi r123.2.1 1)), (vi (gi r123.2.1 2)), (vs 1 t_impl_Item), (vi (gi r123.2.1 4)), (vi 2), (vi (gi r123.2.1 0)), (vi 0), (vs 2 t_bool), (vs 3 t_int'), (vs 4 t_int'), (vs 5 t_impl_Msg)]) r123.2.2.1 r123.2.2.2.1 r123.2.2.2.2.1 r123.2.2.2.2.2.1 r123.2.2.2.2.2.2) fun r124 => bif (decide ((ln r124.2.1) < 400)) then bif ((roomy (r124.2.1.length + 1) 88) && true) then rcall (impl_server_advance (V.agg [(vi (gi r124.1 0)), (vi (gi r124.1 1)), (vi (gi r124.1 2)), (V.inl t_impl_Item (r124.2.1 ++ [(V.agg [(vi (gi r124.1 1)), (vi (gi impl_noOp 0)), (vi (gi impl_noOp 1)), (vi (gi impl_noOp 2)), (V.inl t_byte (gl impl_noOp 3)), (V.inl t_byte (gl impl_noOp 4)), (vi (gi impl_noOp 5))])])), (vi (gi r124.1 4)), (vi (gi r124.1 5)), (vi (gi r124.1 6)), (vi (gi r124.1 7)), (V.inl t_bool r124.2.2.1), (V.inl t_int' r124.2.2.2.1), (V.inl t_int' r124.2.2.2.2.1), (V.inl t_impl_Msg r124.2.2.2.2.2)])) fun r128 => rcall (impl_server_sendAll (n_impl_server r128)) fun r129 => some ((V.tup []), [(V.rf t_impl_server (l35 r129))]) else none else rcall (impl_server_advance (V.agg [(vi (gi r124.1 0)), (vi (gi r124.1 1)), (vi (gi r124.1 2)), (V.inl t_impl_Item r124.2.1), (vi (gi r124.1 4)), (vi (gi r124.1 5)), (vi (gi r124.1 6)), (vi (gi r124.1 7)), (V.inl t_bool r124.2.2.1), (V.inl t_int' r124.2.2.2.1), (V.inl t_int' r124.2.2.2.2.1), (V.inl t_impl_Msg r124.2.2.2.2.2)])) fun r130 => rcall (impl_server_sendAll (n_impl_server r130)) fun r131 => some ((V.tup []), [(V.rf t_impl_server (l35 r131))])) := by kernel_rfl
  rw [h, impl_server_lead]
  clear h
  repeat' (first | exact A0 | refine A1 ?_ ?_ | refine A2 fun _ => ?_ | refine A3 fun _ => ?_ | exact A4 (by kernel_rfl))
def impl_server_lead_A : List S2 := [(.rf t_impl_server q37)]
def impl_server_lead_F (args : List V) : Option (V) := impl_server_lead ((rd args 0).unbox)
def impl_server_lead_s (args : List V) : Option (Bool × (V × List V)) := bif argsOk impl_server_lead_A args then some ((impl_server_lead_F args).isSome, impl_server_lead_sh ((impl_server_lead_F args).getD default)) else none
theorem impl_server_lead_s_ok : ∀ args r, impl_server_lead_s args = some (true, r) → SumOk Try.prog tab 120 args r :=
  Base.sum (cfg := impl_server_lead_c) (F := impl_server_lead_F) (shr := impl_server_lead_sh) base impl_server_lead_c_ok Try.func120 (by kernel_rfl) impl_server_lead_lo impl_server_lead_A (by kernel_rfl) [] [q36] (by kernel_rfl) fun args h => by
    have q := impl_server_lead_e ((rd args 0).unbox)
    rw [show [(V.rf t_impl_server (l35 ((rd args 0).unbox)))] = args from h] at q
    exact q
def impl_Node_lastTerm_c : Cfg := ⟨tab, sumsOf [(103, impl_Node_termAt_s)], fun _ => false, fun f => (look [(103, [none, none])] f).getD [], false, fun _ => false⟩
theorem impl_Node_lastTerm_c_ok : SumsOk Try.prog tab impl_Node_lastTerm_c.sums := sums_cons f103_en impl_Node_termAt_s_ok (sums_nil)
abbrev impl_Node_lastTerm_L : Loops := noL
def impl_Node_lastTerm_sh (r_ : Int) : V × List V := ((vi r_), [])
theorem impl_Node_lastTerm_e (n : V) : Agr (wkF [[.dead]] []) impl_Node_lastTerm_sh (impl_Node_lastTerm n) (evalFn impl_Node_lastTerm_c impl_Node_lastTerm_L Try.f121 [(n_impl_Node n)]) := by
  have h : evalFn impl_Node_lastTerm_c impl_Node_lastTerm_L Try.f121 [(n_impl_Node n)] = (rcall (impl_Node_termAt (n_impl_Node n) (((gl n 3).length : Nat) : Int)) fun r134 => some ((vi r134), [])) := by kernel_rfl
  rw [h, impl_Node_lastTerm]
  clear h
  repeat' (first | exact A0 | refine A1 ?_ ?_ | refine A2 fun _ => ?_ | refine A3 fun _ => ?_ | exact A4 (by kernel_rfl))
def impl_Node_lastTerm_A : List S2 := [(.agg q13)]
def impl_Node_lastTerm_F (args : List V) : Option (Int) := impl_Node_lastTerm (rd args 0)
def impl_Node_lastTerm_s (args : List V) : Option (Bool × (V × List V)) := bif argsOk impl_Node_lastTerm_A args then some ((impl_Node_lastTerm_F args).isSome, impl_Node_lastTerm_sh ((impl_Node_lastTerm_F args).getD default)) else none
theorem impl_Node_lastTerm_s_ok : ∀ args r, impl_Node_lastTerm_s args = some (true, r) → SumOk Try.prog tab 121 args r :=
  Base.sum (cfg := impl_Node_lastTerm_c) (F := impl_Node_lastTerm_F) (shr := impl_Node_lastTerm_sh) base impl_Node_lastTerm_c_ok Try.func121 (by kernel_rfl) noLo impl_Node_lastTerm_A (by kernel_rfl) [[.dead]] [] (by kernel_rfl) fun args h => by
    have q := impl_Node_lastTerm_e (rd args 0)
    rw [show [(n_impl_Node (rd args 0))] = args from h] at q
    exact q
def impl_server_tick_c : Cfg := ⟨tab, sumsOf [(115, impl_server_sendAll_s), (119, impl_server_follow_s), (120, impl_server_lead_s), (61, impl_Node_others_s), (121, impl_Node_lastTerm_s)], fun _ => false, fun f => (look [(115, [none]), (119, [none, none]), (120, [none]), (61, [none]), (121, [none])] f).getD [], false, fun _ => false⟩
theorem impl_server_tick_c_ok : SumsOk Try.prog tab impl_server_tick_c.sums := sums_cons f115_en impl_server_sendAll_s_ok (sums_cons f119_en impl_server_follow_s_ok (sums_cons f120_en impl_server_lead_s_ok (sums_cons f61_en impl_Node_others_s_ok (sums_cons f121_en impl_Node_lastTerm_s_ok (sums_nil)))))
def impl_server_tick_l11_F (st : St) : Option (V × List V × List V × List V × List V × List V) := impl_server_tick_l11 ((((sv st 2).I) - ((sv st 3).I)).toNat + 1) ((sv st 2).I) ((sv st 3).I) (bc st 0) (br st 1) (br st 2) (br st 3) (br st 4) (br st 5) (br st 6)
def impl_server_tick_l11_ps (r_ : V × List V × List V × List V × List V × List V) : List (Ex × St) := [((Ex.exit 0), (⟨[], [(0, some (Blk.box t_impl_server (l38 r_.1))), (1, some (Blk.row t_impl_Item true r_.2.1)), (2, some (Blk.row t_bool true r_.2.2.1)), (3, some (Blk.row t_int' true r_.2.2.2.1)), (4, some (Blk.row t_int' true r_.2.2.2.2.1)), (5, some (Blk.row t_impl_Msg true r_.2.2.2.2.2))], 6, [0]⟩ : St))]
def impl_server_tick_l11_ss : SS := ⟨[(0, (.one (.bp 0 0))), (101, (.one (.sl 1 t_int'))), (102, (.one (.int .i64))), (103, (.one (.int .i64)))], [(.box t_impl_server q39), (.row t_int' true), (.row t_impl_Item true), (.row t_bool true), (.row t_int' true), (.row t_int' true), (.row t_impl_Msg true)], 7, [0]⟩
def impl_server_tick_l11_e : LE := ⟨11, impl_server_tick_l11_ss, fun st => Out.tst (impl_server_tick_l11_F st).isSome (brs ((fun r_ => 0) ((impl_server_tick_l11_F st).getD default)) 0 (impl_server_tick_l11_ps ((impl_server_tick_l11_F st).getD default)))⟩
def impl_server_tick_L : Loops := ⟨fun k => (look [(11, [0, 101, 102, 103])] k).getD [], fun k => (look [] k).getD [], fun k => (look [(11, [])] k).getD [], runL [impl_server_tick_l11_e]⟩
theorem impl_server_tick_l11_ok (k_ : Nat) : ∀ (v102 : Int) (v103 : Int) (b0 : V) (r1 : List V) (r2 : List V) (r3 : List V) (r4 : List V) (r5 : List V) (r6 : List V), Agr id (fun r_ => pick (0) 0 (impl_server_tick_l11_ps r_)) (impl_server_tick_l11 k_ v102 v103 b0 r1 r2 r3 r4 r5 r6) (rounds impl_server_tick_c impl_server_tick_L ((loopsIn (bodyOf Try.f74)).getD 0 .skip) k_ (⟨[(0, (V.bp 0 0)), (101, (vs 1 t_int')), (102, (vi v102)), (103, (vi v103))], [(0, some (Blk.box t_impl_server (l40 b0))), (1, some (Blk.row t_int' true r1)), (2, some (Blk.row t_impl_Item true r2)), (3, some (Blk.row t_bool true r3)), (4, some (Blk.row t_int' true r4)), (5, some (Blk.row t_int' true r5)), (6, some (Blk.row t_impl_Msg true r6))], 7, [0]⟩ : St)) := by
  induction k_ with
  | zero => intros; exact A0
  | succ k_ ih =>
    intro v102 v103 b0 r1 r2 r3 r4 r5 r6
    have h : rounds impl_server_tick_c impl_server_tick_L ((loopsIn (bodyOf Try.f74)).getD 0 .skip) (k_ + 1) (⟨[(0, (V.bp 0 0)), (101, (vs 1 t_int')), (102, (vi v102)), (103, (vi v103))], [(0, some (Blk.box t_impl_server (l40 b0))), (1, some (Blk.row t_int' true r1)), (2, some (Blk.row t_impl_Item true r2)), (3, some (Blk.row t_bool true r3)), (4, some (Blk.row t_int' true r4)), (5, some (Blk.row t_int' true r5)), (6, some (Blk.row t_impl_Msg true r6))], 7, [0]⟩ : St) = (bif (decide (v103 < v102)) then bif (idxOk v103 r1.length) then rcall (impl_Node_lastTerm (V.agg [(vi (gi b0 0)), (vi (gi b0 1)), (vi (gi b0 2)), (V.inl t_impl_Item r2), (vi (gi b0 4)), (vi (gi b0 5)), (vi (gi b0 6)), (vi (gi b0 7)), (V.inl t_bool r3), (V.inl t_int' r4), (V.inl t_int' r5)])) fun r135 => bif ((roomy (r6.length + 1) 88) && true) then rounds impl_server_tick_c impl_server_tick_L ((loopsIn (bodyOf Try.f74)).getD 0 .skip) k_ (⟨[(0, (V.bp 0 0)), (101, (vs 1 t_int')), (102, (vi v102)), (103, (vi (w6 (v103 + 1))))], [(0, some (Blk.box t_impl_server (l40 b0))), (1, some (Blk.row t_int' true r1)), (2, some (Blk.row t_impl_Item true r2)), (3, some (Blk.row t_bool true r3)), (4, some (Blk.row t_int' true r4)), (5, some (Blk.row t_int' true r5)), (6, some (Blk.row t_impl_Msg true (r6 ++ [(V.agg [(vi 0), (vi (gi b0 0)), (vi (gi (rd r1 (0 + v103.toNat)) 0)), (vi (gi b0 1)), (vi (ln r2)), (vi r135), (V.inl t_impl_Item []), (vi 0), (V.bool false)])])))], 7, [0]⟩ : St) else none else none else some ((Ex.exit 0), (⟨[], [(0, some (Blk.box t_impl_server (l38 b0))), (1, some (Blk.row t_impl_Item true r2)), (2, some (Blk.row t_bool true r3)), (3, some (Blk.row t_int' true r4)), (4, some (Blk.row t_int' true r5)), (5, some (Blk.row t_impl_Msg true r6))], 6, [0]⟩ : St))) := by kernel_rfl
    rw [h, impl_server_tick_l11]
    clear h
    repeat' (first | exact A0 | refine A1 ?_ ?_ | refine A2 fun _ => ?_ | refine A3 fun _ => ?_ | exact A4 (by kernel_rfl) | exact ih _ _ _ _ _ _ _ _ _)
theorem impl_server_tick_lo : LoopsOk impl_server_tick_c impl_server_tick_L (bodyOf Try.f74) := by
  refine GoodAll.ok (l := [impl_server_tick_l11_e]) ?_ rfl
  refine GoodAll.cons 0 (by kernel_rfl) ?_ ?_
  · exact good_of (key := 11) (ss := impl_server_tick_l11_ss) (F := impl_server_tick_l11_F) (ix := fun r_ => 0) (ps := impl_server_tick_l11_ps) (fun st => (((sv st 2).I) - ((sv st 3).I)).toNat + 1) fun st h => by
      have q := impl_server_tick_l11_ok ((((sv st 2).I) - ((sv st 3).I)).toNat + 1) ((sv st 2).I) ((sv st 3).I) (bc st 0) (br st 1) (br st 2) (br st 3) (br st 4) (br st 5) (br st 6)
      rw [show (⟨[(0, (V.bp 0 0)), (101, (vs 1 t_int')), (102, (vi ((sv st 2).I))), (103, (vi ((sv st 3).I)))], [(0, some (Blk.box t_impl_server (l40 (bc st 0)))), (1, some (Blk.row t_int' true (br st 1))), (2, some (Blk.row t_impl_Item true (br st 2))), (3, some (Blk.row t_bool true (br st 3))), (4, some (Blk.row t_int' true (br st 4))), (5, some (Blk.row t_int' true (br st 5))), (6, some (Blk.row t_impl_Msg true (br st 6)))], 7, [0]⟩ : St) = st from h] at q
      exact q
  exact GoodAll.nil
def impl_server_tick_sh (r_ : V) : V × List V := ((V.tup []), [(V.rf t_impl_server (l35 r_))])
set_option maxRecDepth 100000 in
theorem impl_server_tick_e (s : V) : Agr (wkF [] [q36]) impl_server_tick_sh (impl_server_tick s) (evalFn impl_server_tick_c impl_server_tick_L Try.f74 [(V.rf t_impl_server (l35 s))]) := by
  have h : evalFn impl_server_tick_c impl_server_tick_L Try.f74 [(V.rf t_impl_server (l35 s))] = (bif (decide ((gi s 5) = 2)) then rcall (impl_server_sendAll (n_impl_server s)) fun r121 => some ((V.tup []), [(V.rf t_impl_server (l35 r121))]) else bif (decide ((w6 ((gi s 7) + 1)) < (w6 (3 + (w6 (2 * (gi s 0))))))) then some ((V.tup []), [(V.rf t_impl_server [(vi (gi s 0)), (vi (gi s 1)), (vi (gi s 2)), (V.rr t_impl_Item true (gl s 3)), (vi (gi s 4)), (vi (gi s 5)), (vi (gi s 6)), (vi (mnI 20 (w6 ((gi s 7) + 1)))), (V.rr t_bool true (gl s 8)), (V.rr t_int' true (gl s 9)), (V.rr t_int' true (gl s 10)), (V.rr t_impl_Msg true (gl s 11))])]) else bif (decide ((gi s 1) = 100000)) then some ((V.tup []), [(V.rf t_impl_server [(vi (gi s 0)), (vi (gi s 1)), (vi (gi s 2)), (V.rr t_impl_Item true (gl s 3)), (vi (gi s 4)), (vi (gi s 5)), (vi (gi s 6)), (vi (mnI 20 (w6 ((gi s 7) + 1)))), (V.rr t_bool true (gl s 8)), (V.rr t_int' true (gl s 9)), (V.rr t_int' true (gl s 10)), (V.rr t_impl_Msg true (gl s 11))])]) else rlet (impl_server_follow (V.agg [(vi (gi s 0)), (vi (gi s 1)), (vi (gi s 2)), (V.inl t_impl_Item (gl s 3)), (vi (gi s 4)), (vi (gi s 5)), (vi (gi s 6)), (vi (w6 ((gi s 7) + 1))), (V.inl t_bool (gl s 8)), (V.inl t_int' (gl s 9)), (V.inl t_int' (gl s 10)), (V.inl t_impl_Msg (gl s 11))]) (w6 ((gi s 1) + 1))) fun r122 => bif (idxOk (gi r122 0) ((gl r122 8).length)) then bif (decide (((((gl r122 8).set (0 + ((gi r122 0).toNat)) (V.bool true)).length : Nat) : Int) = 1)) then rcall (impl_server_lead (V.agg [(vi (gi r122 0)), (vi (gi r122 1)), (vi (gi r122 0)), (V.inl t_impl_Item (gl r122 3)), (vi (gi r122 4)), (vi 1), (vi (gi r122 6)), (vi 0), (V.inl t_bool ((gl r122 8).set (0 + ((gi r122 0).toNat)) (V.bool true))), (V.inl t_int' (gl r122 9)), (V.inl t_int' (gl r122 10)), (V.inl t_impl_Msg (gl r122 11))])) fun r132 => some ((V.tup []), [(V.rf t_impl_server (l35 r132))]) else rcall (impl_Node_others (V.agg [(vi (gi r122 0)), (vi (gi r122 1)), (vi (gi r122 0)), (V.inl t_impl_Item (gl r122 3)), (vi (gi r122 4)), (vi 1), (vi (gi r122 6)), (vi 0), (V.inl t_bool ((gl r122 8).set (0 + ((gi r122 0).toNat)) (V.bool true))), (V.inl t_int' (gl r122 9)), (V.inl t_int' (gl r122 10))])) fun r133 => rcall (impl_server_tick_l11 (((ln r133) - 0).toNat + 1) (ln r133) 0 (V.agg [(vi (gi r122 0)), (vi (gi r122 1)), (vi (gi r122 0)), (vs 2 t_impl_Item), (vi (gi r122 4)), (vi 1), (vi (gi r122 6)), (vi 0), (vs 3 t_bool), (vs 4 t_int'), (vs 5 t_int'), (vs 6 t_impl_Msg)]) r133 (gl r122 3) ((gl r122 8).set (0 + ((gi r122 0).toNat)) (V.bool true)) (gl r122 9) (gl r122 10) (gl r122 11)) fun r136 => some ((V.tup []), [(V.rf t_impl_server [(vi (gi r136.1 0)), (vi (gi r136.1 1)), (vi (gi r136.1 2)), (V.rr t_impl_Item true r136.2.1), (vi (gi r136.1 4)), (vi (gi r136.1 5)), (vi (gi r136.1 6)), (vi (gi r136.1 7)), (V.rr t_bool true r136.2.2.1), (V.rr t_int' true r136.2.2.2.1), (V.rr t_int' true r136.2.2.2.2.1), (V.rr t_impl_Msg true r136.2.2.2.2.2)])]) else none) := by kernel_rfl
  rw [h, impl_server_tick]
  clear h
  repeat' (first | exact A0 | refine A1 ?_ ?_ | refine A2 fun _ => ?_ | refine A3 fun _ => ?_ | exact A4 (by kernel_rfl))
def impl_server_tick_A : List S2 := [(.rf t_impl_server q37)]
def impl_server_tick_F (args : List V) : Option (V) := impl_server_tick ((rd args 0).unbox)
def impl_server_tick_s (args : List V) : Option (Bool × (V × List V)) := bif argsOk impl_server_tick_A args then some ((impl_server_tick_F args).isSome, impl_server_tick_sh ((impl_server_tick_F args).getD default)) else none
theorem impl_server_tick_s_ok : ∀ args r, impl_server_tick_s args = some (true, r) → SumOk Try.prog tab 74 args r :=
  Base.sum (cfg := impl_server_tick_c) (F := impl_server_tick_F) (shr := impl_server_tick_sh) base impl_server_tick_c_ok Try.func74 (by kernel_rfl) impl_server_tick_lo impl_server_tick_A (by kernel_rfl) [] [q36] (by kernel_rfl) fun args h => by
    have q := impl_server_tick_e ((rd args 0).unbox)
    rw [show [(V.rf t_impl_server (l35 ((rd args 0).unbox)))] = args from h] at q
    exact q
def impl_Tick_c : Cfg := ⟨tab, sumsOf [(35, impl_NodeOk_s), (69, impl_Node_own_s), (74, impl_server_tick_s)], fun _ => false, fun f => (look [(35, [none, none]), (69, [none]), (74, [none])] f).getD [], false, fun _ => false⟩
theorem impl_Tick_c_ok : SumsOk Try.prog tab impl_Tick_c.sums := sums_cons f35_en impl_NodeOk_s_ok (sums_cons f69_en impl_Node_own_s_ok (sums_cons f74_en impl_server_tick_s_ok (sums_nil)))
abbrev impl_Tick_L : Loops := noL
def impl_Tick_sh (r_ : V × List V) : V × List V := ((V.tup [(h10 r_.1), (V.rr t_impl_Msg true r_.2)]), [])
theorem impl_Tick_e (n : V) (servers : Int) : Agr (wkF [q11, [(.rr t_impl_Msg true)]] []) impl_Tick_sh (impl_Tick n servers) (evalFn impl_Tick_c impl_Tick_L Try.f30 [(n_impl_Node n), (vi servers)]) := by
  have h : evalFn impl_Tick_c impl_Tick_L Try.f30 [(n_impl_Node n), (vi servers)] = (rcall (impl_NodeOk (n_impl_Node n) servers) fun r103 => bif (!r103) then some ((V.tup [(V.agg [(vi 0), (vi 0), (vi 0), (V.nil t_impl_Item), (vi 0), (vi 0), (vi 0), (vi 0), (V.nil t_bool), (V.nil t_int'), (V.nil t_int')]), (V.nil t_impl_Msg)]), []) else rcall (impl_Node_own (n_impl_Node n)) fun r113 => rcall (impl_server_tick (h50 r113)) fun r137 => some ((V.tup [(h10 r137), (V.rr t_impl_Msg true (gl r137 11))]), [])) := by kernel_rfl
  rw [h, impl_Tick]
  clear h
  repeat' (first | exact A0 | refine A1 ?_ ?_ | refine A2 fun _ => ?_ | refine A3 fun _ => ?_ | exact A4 (by kernel_rfl))
def impl_Tick_A : List S2 := [(.agg q13), (.one (.int .i64))]
def impl_Tick_F (args : List V) : Option (V × List V) := impl_Tick (rd args 0) ((rd args 1).I)
def impl_Tick_s (args : List V) : Option (Bool × (V × List V)) := bif argsOk impl_Tick_A args then some ((impl_Tick_F args).isSome, impl_Tick_sh ((impl_Tick_F args).getD default)) else none
theorem impl_Tick_s_ok : ∀ args r, impl_Tick_s args = some (true, r) → SumOk Try.prog tab 30 args r :=
  Base.sum (cfg := impl_Tick_c) (F := impl_Tick_F) (shr := impl_Tick_sh) base impl_Tick_c_ok Try.func30 (by kernel_rfl) noLo impl_Tick_A (by kernel_rfl) [q11, [(.rr t_impl_Msg true)]] [] (by kernel_rfl) fun args h => by
    have q := impl_Tick_e (rd args 0) ((rd args 1).I)
    rw [show [(n_impl_Node (rd args 0)), (vi ((rd args 1).I))] = args from h] at q
    exact q
def laws_eqByteS_c : Cfg := ⟨tab, sumsOf [], fun _ => false, fun f => (look [] f).getD [], false, fun _ => false⟩
theorem laws_eqByteS_c_ok : SumsOk Try.prog tab laws_eqByteS_c.sums := sums_nil
def laws_eqByteS_l4_F (st : St) : Option (Nat × Bool) := laws_eqByteS_l4 ((((((sv st 0).L).length : Nat) : Int) - ((sv st 2).I)).toNat + 1) ((sv st 0).L) ((sv st 1).L) ((sv st 2).I)
def laws_eqByteS_l4_ps (r_ : Nat × Bool) : List (Ex × St) := [(Ex.ret, (⟨[(4, (V.bool r_.2))], [], 0, []⟩ : St)), ((Ex.exit 0), (⟨[(4, V.dead)], [], 0, []⟩ : St))]
def laws_eqByteS_l4_ss : SS := ⟨[(0, (.one (.inl t_byte))), (1, (.one (.inl t_byte))), (5, (.one (.int .i64)))], [], 0, []⟩
def laws_eqByteS_l4_e : LE := ⟨4, laws_eqByteS_l4_ss, fun st => Out.tst (laws_eqByteS_l4_F st).isSome (brs ((fun r_ => r_.1) ((laws_eqByteS_l4_F st).getD default)) 0 (laws_eqByteS_l4_ps ((laws_eqByteS_l4_F st).getD default)))⟩
def laws_eqByteS_L : Loops := ⟨fun k => (look [(4, [0, 1, 5])] k).getD [], fun k => (look [] k).getD [], fun k => (look [(4, [4])] k).getD [], runL [laws_eqByteS_l4_e]⟩
theorem laws_eqByteS_l4_ok (k_ : Nat) : ∀ (a0 : List V) (b1 : List V) (i5 : Int), Agr id (fun r_ => pick (r_.1) 0 (laws_eqByteS_l4_ps r_)) (laws_eqByteS_l4 k_ a0 b1 i5) (rounds laws_eqByteS_c laws_eqByteS_L ((loopsIn (bodyOf Try.f116)).getD 0 .skip) k_ (⟨[(0, (V.inl t_byte a0)), (1, (V.inl t_byte b1)), (5, (vi i5))], [], 0, []⟩ : St)) := by
  induction k_ with
  | zero => intros; exact A0
  | succ k_ ih =>
    intro a0 b1 i5
    have h : rounds laws_eqByteS_c laws_eqByteS_L ((loopsIn (bodyOf Try.f116)).getD 0 .skip) (k_ + 1) (⟨[(0, (V.inl t_byte a0)), (1, (V.inl t_byte b1)), (5, (vi i5))], [], 0, []⟩ : St) = (bif (decide (i5 < (ln a0))) then bif (idxOk i5 a0.length) then bif (idxOk i5 b1.length) then bif (!(decide ((gi (rd a0 i5.toNat) 0) = (gi (rd b1 i5.toNat) 0)))) then some (Ex.ret, (⟨[(4, (V.bool false))], [], 0, []⟩ : St)) else rounds laws_eqByteS_c laws_eqByteS_L ((loopsIn (bodyOf Try.f116)).getD 0 .skip) k_ (⟨[(0, (V.inl t_byte a0)), (1, (V.inl t_byte b1)), (5, (vi (w6 (i5 + 1))))], [], 0, []⟩ : St) else none else none else some ((Ex.exit 0), (⟨[(4, V.dead)], [], 0, []⟩ : St))) := by kernel_rfl
    rw [h, laws_eqByteS_l4]
    clear h
    repeat' (first | exact A0 | refine A1 ?_ ?_ | refine A2 fun _ => ?_ | refine A3 fun _ => ?_ | exact A4 (by kernel_rfl) | exact ih _ _ _)
theorem laws_eqByteS_lo : LoopsOk laws_eqByteS_c laws_eqByteS_L (bodyOf Try.f116) := by
  refine GoodAll.ok (l := [laws_eqByteS_l4_e]) ?_ rfl
  refine GoodAll.cons 0 (by kernel_rfl) ?_ ?_
  · exact good_of (key := 4) (ss := laws_eqByteS_l4_ss) (F := laws_eqByteS_l4_F) (ix := fun r_ => r_.1) (ps := laws_eqByteS_l4_ps) (fun st => (((((sv st 0).L).length : Nat) : Int) - ((sv st 2).I)).toNat + 1) fun st h => by
      have q := laws_eqByteS_l4_ok ((((((sv st 0).L).length : Nat) : Int) - ((sv st 2).I)).toNat + 1) ((sv st 0).L) ((sv st 1).L) ((sv st 2).I)
      rw [show (⟨[(0, (V.inl t_byte ((sv st 0).L))), (1, (V.inl t_byte ((sv st 1).L))), (5, (vi ((sv st 2).I)))], [], 0, []⟩ : St) = st from h] at q
      exact q
  exact GoodAll.nil
def laws_eqByteS_sh (r_ : Bool) : V × List V := ((V.bool r_), [])
theorem laws_eqByteS_e (a : List V) (b : List V) : Agr (wkF [[.dead]] []) laws_eqByteS_sh (laws_eqByteS a b) (evalFn laws_eqByteS_c laws_eqByteS_L Try.f116 [(V.inl t_byte a), (V.inl t_byte b)]) := by
  have h : evalFn laws_eqByteS_c laws_eqByteS_L Try.f116 [(V.inl t_byte a), (V.inl t_byte b)] = (bif (!(decide ((ln a) = (ln b)))) then some ((V.bool false), []) else rcall (laws_eqByteS_l4 (((ln a) - 0).toNat + 1) a b 0) fun r139 => bif (Nat.beq r139.1 0) then some ((V.bool r139.2), []) else some ((V.bool true), [])) := by kernel_rfl
  rw [h, laws_eqByteS]
  clear h
  repeat' (first | exact A0 | refine A1 ?_ ?_ | refine A2 fun _ => ?_ | refine A3 fun _ => ?_ | exact A4 (by kernel_rfl))
def laws_eqByteS_A : List S2 := [(.one (.inl t_byte)), (.one (.inl t_byte))]
def laws_eqByteS_F (args : List V) : Option (Bool) := laws_eqByteS ((rd args 0).L) ((rd args 1).L)
def laws_eqByteS_s (args : List V) : Option (Bool × (V × List V)) := bif argsOk laws_eqByteS_A args then some ((laws_eqByteS_F args).isSome, laws_eqByteS_sh ((laws_eqByteS_F args).getD default)) else none
theorem laws_eqByteS_s_ok : ∀ args r, laws_eqByteS_s args = some (true, r) → SumOk Try.prog tab 116 args r :=
  Base.sum (cfg := laws_eqByteS_c) (F := laws_eqByteS_F) (shr := laws_eqByteS_sh) base laws_eqByteS_c_ok Try.func116 (by kernel_rfl) laws_eqByteS_lo laws_eqByteS_A (by kernel_rfl) [[.dead]] [] (by kernel_rfl) fun args h => by
    have q := laws_eqByteS_e ((rd args 0).L) ((rd args 1).L)
    rw [show [(V.inl t_byte ((rd args 0).L)), (V.inl t_byte ((rd args 1).L))] = args from h] at q
    exact q
def laws_eqOp_c : Cfg := ⟨tab, sumsOf [(116, laws_eqByteS_s)], fun _ => false, fun f => (look [(116, [some t_byte, some t_byte])] f).getD [], false, fun _ => false⟩
theorem laws_eqOp_c_ok : SumsOk Try.prog tab laws_eqOp_c.sums := sums_cons f116_en laws_eqByteS_s_ok (sums_nil)
abbrev laws_eqOp_L : Loops := noL
def laws_eqOp_sh (r_ : Bool) : V × List V := ((V.bool r_), [])
theorem laws_eqOp_e (a : V) (b : V) : Agr (wkF [[.dead]] []) laws_eqOp_sh (laws_eqOp a b) (evalFn laws_eqOp_c laws_eqOp_L Try.f71 [(n_laws_Op a), (n_laws_Op b)]) := by
  have h : evalFn laws_eqOp_c laws_eqOp_L Try.f71 [(n_laws_Op a), (n_laws_Op b)] = (bif (!(decide ((gi a 0) = (gi b 0)))) then some ((V.bool false), []) else rcall (laws_eqByteS (gl a 1) (gl b 1)) fun r140 => bif (!r140) then some ((V.bool false), []) else rcall (laws_eqByteS (gl a 2) (gl b 2)) fun r141 => bif (!r141) then some ((V.bool false), []) else bif (!(decide ((gi a 3) = (gi b 3)))) then some ((V.bool false), []) else some ((V.bool true), [])) := by kernel_rfl
  rw [h, laws_eqOp]
  clear h
  repeat' (first | exact A0 | refine A1 ?_ ?_ | refine A2 fun _ => ?_ | refine A3 fun _ => ?_ | exact A4 (by kernel_rfl))
def laws_eqOp_A : List S2 := [(.agg q0), (.agg q0)]
def laws_eqOp_F (args : List V) : Option (Bool) := laws_eqOp (rd args 0) (rd args 1)
def laws_eqOp_s (args : List V) : Option (Bool × (V × List V)) := bif argsOk laws_eqOp_A args then some ((laws_eqOp_F args).isSome, laws_eqOp_sh ((laws_eqOp_F args).getD default)) else none
theorem laws_eqOp_s_ok : ∀ args r, laws_eqOp_s args = some (true, r) → SumOk Try.prog tab 71 args r :=
  Base.sum (cfg := laws_eqOp_c) (F := laws_eqOp_F) (shr := laws_eqOp_sh) base laws_eqOp_c_ok Try.func71 (by kernel_rfl) noLo laws_eqOp_A (by kernel_rfl) [[.dead]] [] (by kernel_rfl) fun args h => by
    have q := laws_eqOp_e (rd args 0) (rd args 1)
    rw [show [(n_laws_Op (rd args 0)), (n_laws_Op (rd args 1))] = args from h] at q
    exact q
def laws_eqCmd_c : Cfg := ⟨tab, sumsOf [(71, laws_eqOp_s)], fun _ => false, fun f => (look [(71, [none, none])] f).getD [], false, fun _ => false⟩
theorem laws_eqCmd_c_ok : SumsOk Try.prog tab laws_eqCmd_c.sums := sums_cons f71_en laws_eqOp_s_ok (sums_nil)
abbrev laws_eqCmd_L : Loops := noL
def laws_eqCmd_sh (r_ : Bool) : V × List V := ((V.bool r_), [])
theorem laws_eqCmd_e (a : V) (b : V) : Agr (wkF [[.dead]] []) laws_eqCmd_sh (laws_eqCmd a b) (evalFn laws_eqCmd_c laws_eqCmd_L Try.f25 [(n_laws_Cmd a), (n_laws_Cmd b)]) := by
  have h : evalFn laws_eqCmd_c laws_eqCmd_L Try.f25 [(n_laws_Cmd a), (n_laws_Cmd b)] = (bif (!(decide ((gi a 0) = (gi b 0)))) then some ((V.bool false), []) else bif (!(decide ((gi a 1) = (gi b 1)))) then some ((V.bool false), []) else rcall (laws_eqOp (V.agg [(vi (gi a 2)), (V.inl t_byte (gl a 3)), (V.inl t_byte (gl a 4)), (vi (gi a 5))]) (V.agg [(vi (gi b 2)), (V.inl t_byte (gl b 3)), (V.inl t_byte (gl b 4)), (vi (gi b 5))])) fun r142 => bif (!r142) then some ((V.bool false), []) else some ((V.bool true), [])) := by kernel_rfl
  rw [h, laws_eqCmd]
  clear h
  repeat' (first | exact A0 | refine A1 ?_ ?_ | refine A2 fun _ => ?_ | refine A3 fun _ => ?_ | exact A4 (by kernel_rfl))
def laws_eqCmd_A : List S2 := [(.agg q1), (.agg q1)]
def laws_eqCmd_F (args : List V) : Option (Bool) := laws_eqCmd (rd args 0) (rd args 1)
def laws_eqCmd_s (args : List V) : Option (Bool × (V × List V)) := bif argsOk laws_eqCmd_A args then some ((laws_eqCmd_F args).isSome, laws_eqCmd_sh ((laws_eqCmd_F args).getD default)) else none
theorem laws_eqCmd_s_ok : ∀ args r, laws_eqCmd_s args = some (true, r) → SumOk Try.prog tab 25 args r :=
  Base.sum (cfg := laws_eqCmd_c) (F := laws_eqCmd_F) (shr := laws_eqCmd_sh) base laws_eqCmd_c_ok Try.func25 (by kernel_rfl) noLo laws_eqCmd_A (by kernel_rfl) [[.dead]] [] (by kernel_rfl) fun args h => by
    have q := laws_eqCmd_e (rd args 0) (rd args 1)
    rw [show [(n_laws_Cmd (rd args 0)), (n_laws_Cmd (rd args 1))] = args from h] at q
    exact q
def laws_eqItem_c : Cfg := ⟨tab, sumsOf [(25, laws_eqCmd_s)], fun _ => false, fun f => (look [(25, [none, none])] f).getD [], false, fun _ => false⟩
theorem laws_eqItem_c_ok : SumsOk Try.prog tab laws_eqItem_c.sums := sums_cons f25_en laws_eqCmd_s_ok (sums_nil)
abbrev laws_eqItem_L : Loops := noL
def laws_eqItem_sh (r_ : Bool) : V × List V := ((V.bool r_), [])
theorem laws_eqItem_e (a : V) (b : V) : Agr (wkF [[.dead]] []) laws_eqItem_sh (laws_eqItem a b) (evalFn laws_eqItem_c laws_eqItem_L Try.f99 [(n_impl_Item a), (n_impl_Item b)]) := by
  have h : evalFn laws_eqItem_c laws_eqItem_L Try.f99 [(n_impl_Item a), (n_impl_Item b)] = (bif (!(decide ((gi a 0) = (gi b 0)))) then some ((V.bool false), []) else rcall (laws_eqCmd (V.agg [(vi (gi a 1)), (vi (gi a 2)), (vi (gi a 3)), (V.inl t_byte (gl a 4)), (V.inl t_byte (gl a 5)), (vi (gi a 6))]) (V.agg [(vi (gi b 1)), (vi (gi b 2)), (vi (gi b 3)), (V.inl t_byte (gl b 4)), (V.inl t_byte (gl b 5)), (vi (gi b 6))])) fun r143 => bif (!r143) then some ((V.bool false), []) else some ((V.bool true), [])) := by kernel_rfl
  rw [h, laws_eqItem]
  clear h
  repeat' (first | exact A0 | refine A1 ?_ ?_ | refine A2 fun _ => ?_ | refine A3 fun _ => ?_ | exact A4 (by kernel_rfl))
def laws_eqItem_A : List S2 := [(.agg q2), (.agg q2)]
def laws_eqItem_F (args : List V) : Option (Bool) := laws_eqItem (rd args 0) (rd args 1)
def laws_eqItem_s (args : List V) : Option (Bool × (V × List V)) := bif argsOk laws_eqItem_A args then some ((laws_eqItem_F args).isSome, laws_eqItem_sh ((laws_eqItem_F args).getD default)) else none
theorem laws_eqItem_s_ok : ∀ args r, laws_eqItem_s args = some (true, r) → SumOk Try.prog tab 99 args r :=
  Base.sum (cfg := laws_eqItem_c) (F := laws_eqItem_F) (shr := laws_eqItem_sh) base laws_eqItem_c_ok Try.func99 (by kernel_rfl) noLo laws_eqItem_A (by kernel_rfl) [[.dead]] [] (by kernel_rfl) fun args h => by
    have q := laws_eqItem_e (rd args 0) (rd args 1)
    rw [show [(n_impl_Item (rd args 0)), (n_impl_Item (rd args 1))] = args from h] at q
    exact q
def laws_eqItemS_c : Cfg := ⟨tab, sumsOf [(99, laws_eqItem_s)], fun _ => false, fun f => (look [(99, [none, none])] f).getD [], false, fun _ => false⟩
theorem laws_eqItemS_c_ok : SumsOk Try.prog tab laws_eqItemS_c.sums := sums_cons f99_en laws_eqItem_s_ok (sums_nil)
def laws_eqItemS_l4_F (st : St) : Option (Nat × Bool) := laws_eqItemS_l4 ((((((sv st 0).L).length : Nat) : Int) - ((sv st 2).I)).toNat + 1) ((sv st 0).L) ((sv st 1).L) ((sv st 2).I)
def laws_eqItemS_l4_ps (r_ : Nat × Bool) : List (Ex × St) := [(Ex.ret, (⟨[(4, (V.bool r_.2))], [], 0, []⟩ : St)), ((Ex.exit 0), (⟨[(4, V.dead)], [], 0, []⟩ : St))]
def laws_eqItemS_l4_ss : SS := ⟨[(0, (.one (.inl t_impl_Item))), (1, (.one (.inl t_impl_Item))), (5, (.one (.int .i64)))], [], 0, []⟩
def laws_eqItemS_l4_e : LE := ⟨4, laws_eqItemS_l4_ss, fun st => Out.tst (laws_eqItemS_l4_F st).isSome (brs ((fun r_ => r_.1) ((laws_eqItemS_l4_F st).getD default)) 0 (laws_eqItemS_l4_ps ((laws_eqItemS_l4_F st).getD default)))⟩
def laws_eqItemS_L : Loops := ⟨fun k => (look [(4, [0, 1, 5])] k).getD [], fun k => (look [] k).getD [], fun k => (look [(4, [4])] k).getD [], runL [laws_eqItemS_l4_e]⟩
theorem laws_eqItemS_l4_ok (k_ : Nat) : ∀ (a0 : List V) (b1 : List V) (i5 : Int), Agr id (fun r_ => pick (r_.1) 0 (laws_eqItemS_l4_ps r_)) (laws_eqItemS_l4 k_ a0 b1 i5) (rounds laws_eqItemS_c laws_eqItemS_L ((loopsIn (bodyOf Try.f48)).getD 0 .skip) k_ (⟨[(0, (V.inl t_impl_Item a0)), (1, (V.inl t_impl_Item b1)), (5, (vi i5))], [], 0, []⟩ : St)) := by
  induction k_ with
  | zero => intros; exact A0
  | succ k_ ih =>
    intro a0 b1 i5
    have h : rounds laws_eqItemS_c laws_eqItemS_L ((loopsIn (bodyOf Try.f48)).getD 0 .skip) (k_ + 1) (⟨[(0, (V.inl t_impl_Item a0)), (1, (V.inl t_impl_Item b1)), (5, (vi i5))], [], 0, []⟩ : St) = (bif (decide (i5 < (ln a0))) then bif (idxOk i5 a0.length) then bif (idxOk i5 b1.length) then rcall (laws_eqItem (n_impl_Item (rd a0 i5.toNat)) (n_impl_Item (rd b1 i5.toNat))) fun r144 => bif (!r144) then some (Ex.ret, (⟨[(4, (V.bool false))], [], 0, []⟩ : St)) else rounds laws_eqItemS_c laws_eqItemS_L ((loopsIn (bodyOf Try.f48)).getD 0 .skip) k_ (⟨[(0, (V.inl t_impl_Item a0)), (1, (V.inl t_impl_Item b1)), (5, (vi (w6 (i5 + 1))))], [], 0, []⟩ : St) else none else none else some ((Ex.exit 0), (⟨[(4, V.dead)], [], 0, []⟩ : St))) := by kernel_rfl
    rw [h, laws_eqItemS_l4]
    clear h
    repeat' (first | exact A0 | refine A1 ?_ ?_ | refine A2 fun _ => ?_ | refine A3 fun _ => ?_ | exact A4 (by kernel_rfl) | exact ih _ _ _)
theorem laws_eqItemS_lo : LoopsOk laws_eqItemS_c laws_eqItemS_L (bodyOf Try.f48) := by
  refine GoodAll.ok (l := [laws_eqItemS_l4_e]) ?_ rfl
  refine GoodAll.cons 0 (by kernel_rfl) ?_ ?_
  · exact good_of (key := 4) (ss := laws_eqItemS_l4_ss) (F := laws_eqItemS_l4_F) (ix := fun r_ => r_.1) (ps := laws_eqItemS_l4_ps) (fun st => (((((sv st 0).L).length : Nat) : Int) - ((sv st 2).I)).toNat + 1) fun st h => by
      have q := laws_eqItemS_l4_ok ((((((sv st 0).L).length : Nat) : Int) - ((sv st 2).I)).toNat + 1) ((sv st 0).L) ((sv st 1).L) ((sv st 2).I)
      rw [show (⟨[(0, (V.inl t_impl_Item ((sv st 0).L))), (1, (V.inl t_impl_Item ((sv st 1).L))), (5, (vi ((sv st 2).I)))], [], 0, []⟩ : St) = st from h] at q
      exact q
  exact GoodAll.nil
def laws_eqItemS_sh (r_ : Bool) : V × List V := ((V.bool r_), [])
theorem laws_eqItemS_e (a : List V) (b : List V) : Agr (wkF [[.dead]] []) laws_eqItemS_sh (laws_eqItemS a b) (evalFn laws_eqItemS_c laws_eqItemS_L Try.f48 [(V.inl t_impl_Item a), (V.inl t_impl_Item b)]) := by
  have h : evalFn laws_eqItemS_c laws_eqItemS_L Try.f48 [(V.inl t_impl_Item a), (V.inl t_impl_Item b)] = (bif (!(decide ((ln a) = (ln b)))) then some ((V.bool false), []) else rcall (laws_eqItemS_l4 (((ln a) - 0).toNat + 1) a b 0) fun r145 => bif (Nat.beq r145.1 0) then some ((V.bool r145.2), []) else some ((V.bool true), [])) := by kernel_rfl
  rw [h, laws_eqItemS]
  clear h
  repeat' (first | exact A0 | refine A1 ?_ ?_ | refine A2 fun _ => ?_ | refine A3 fun _ => ?_ | exact A4 (by kernel_rfl))
def laws_eqItemS_A : List S2 := [(.one (.inl t_impl_Item)), (.one (.inl t_impl_Item))]
def laws_eqItemS_F (args : List V) : Option (Bool) := laws_eqItemS ((rd args 0).L) ((rd args 1).L)
def laws_eqItemS_s (args : List V) : Option (Bool × (V × List V)) := bif argsOk laws_eqItemS_A args then some ((laws_eqItemS_F args).isSome, laws_eqItemS_sh ((laws_eqItemS_F args).getD default)) else none
theorem laws_eqItemS_s_ok : ∀ args r, laws_eqItemS_s args = some (true, r) → SumOk Try.prog tab 48 args r :=
  Base.sum (cfg := laws_eqItemS_c) (F := laws_eqItemS_F) (shr := laws_eqItemS_sh) base laws_eqItemS_c_ok Try.func48 (by kernel_rfl) laws_eqItemS_lo laws_eqItemS_A (by kernel_rfl) [[.dead]] [] (by kernel_rfl) fun args h => by
    have q := laws_eqItemS_e ((rd args 0).L) ((rd args 1).L)
    rw [show [(V.inl t_impl_Item ((rd args 0).L)), (V.inl t_impl_Item ((rd args 1).L))] = args from h] at q
    exact q
def laws_eqBoolS_c : Cfg := ⟨tab, sumsOf [], fun _ => false, fun f => (look [] f).getD [], false, fun _ => false⟩
theorem laws_eqBoolS_c_ok : SumsOk Try.prog tab laws_eqBoolS_c.sums := sums_nil
def laws_eqBoolS_l4_F (st : St) : Option (Nat × Bool) := laws_eqBoolS_l4 ((((((sv st 0).L).length : Nat) : Int) - ((sv st 2).I)).toNat + 1) ((sv st 0).L) ((sv st 1).L) ((sv st 2).I)
def laws_eqBoolS_l4_ps (r_ : Nat × Bool) : List (Ex × St) := [(Ex.ret, (⟨[(4, (V.bool r_.2))], [], 0, []⟩ : St)), ((Ex.exit 0), (⟨[(4, V.dead)], [], 0, []⟩ : St))]
def laws_eqBoolS_l4_ss : SS := ⟨[(0, (.one (.inl t_bool))), (1, (.one (.inl t_bool))), (5, (.one (.int .i64)))], [], 0, []⟩
def laws_eqBoolS_l4_e : LE := ⟨4, laws_eqBoolS_l4_ss, fun st => Out.tst (laws_eqBoolS_l4_F st).isSome (brs ((fun r_ => r_.1) ((laws_eqBoolS_l4_F st).getD default)) 0 (laws_eqBoolS_l4_ps ((laws_eqBoolS_l4_F st).getD default)))⟩
def laws_eqBoolS_L : Loops := ⟨fun k => (look [(4, [0, 1, 5])] k).getD [], fun k => (look [] k).getD [], fun k => (look [(4, [4])] k).getD [], runL [laws_eqBoolS_l4_e]⟩
theorem laws_eqBoolS_l4_ok (k_ : Nat) : ∀ (a0 : List V) (b1 : List V) (i5 : Int), Agr id (fun r_ => pick (r_.1) 0 (laws_eqBoolS_l4_ps r_)) (laws_eqBoolS_l4 k_ a0 b1 i5) (rounds laws_eqBoolS_c laws_eqBoolS_L ((loopsIn (bodyOf Try.f49)).getD 0 .skip) k_ (⟨[(0, (V.inl t_bool a0)), (1, (V.inl t_bool b1)), (5, (vi i5))], [], 0, []⟩ : St)) := by
  induction k_ with
  | zero => intros; exact A0
  | succ k_ ih =>
    intro a0 b1 i5
    have h : rounds laws_eqBoolS_c laws_eqBoolS_L ((loopsIn (bodyOf Try.f49)).getD 0 .skip) (k_ + 1) (⟨[(0, (V.inl t_bool a0)), (1, (V.inl t_bool b1)), (5, (vi i5))], [], 0, []⟩ : St) = (bif (decide (i5 < (ln a0))) then bif (idxOk i5 a0.length) then bif (idxOk i5 b1.length) then bif (!((gb (rd a0 i5.toNat) 0) == (gb (rd b1 i5.toNat) 0))) then some (Ex.ret, (⟨[(4, (V.bool false))], [], 0, []⟩ : St)) else rounds laws_eqBoolS_c laws_eqBoolS_L ((loopsIn (bodyOf Try.f49)).getD 0 .skip) k_ (⟨[(0, (V.inl t_bool a0)), (1, (V.inl t_bool b1)), (5, (vi (w6 (i5 + 1))))], [], 0, []⟩ : St) else none else none else some ((Ex.exit 0), (⟨[(4, V.dead)], [], 0, []⟩ : St))) := by kernel_rfl
    rw [h, laws_eqBoolS_l4]
    clear h
    repeat' (first | exact A0 | refine A1 ?_ ?_ | refine A2 fun _ => ?_ | refine A3 fun _ => ?_ | exact A4 (by kernel_rfl) | exact ih _ _ _)
theorem laws_eqBoolS_lo : LoopsOk laws_eqBoolS_c laws_eqBoolS_L (bodyOf Try.f49) := by
  refine GoodAll.ok (l := [laws_eqBoolS_l4_e]) ?_ rfl
  refine GoodAll.cons 0 (by kernel_rfl) ?_ ?_
  · exact good_of (key := 4) (ss := laws_eqBoolS_l4_ss) (F := laws_eqBoolS_l4_F) (ix := fun r_ => r_.1) (ps := laws_eqBoolS_l4_ps) (fun st => (((((sv st 0).L).length : Nat) : Int) - ((sv st 2).I)).toNat + 1) fun st h => by
      have q := laws_eqBoolS_l4_ok ((((((sv st 0).L).length : Nat) : Int) - ((sv st 2).I)).toNat + 1) ((sv st 0).L) ((sv st 1).L) ((sv st 2).I)
      rw [show (⟨[(0, (V.inl t_bool ((sv st 0).L))), (1, (V.inl t_bool ((sv st 1).L))), (5, (vi ((sv st 2).I)))], [], 0, []⟩ : St) = st from h] at q
      exact q
  exact GoodAll.nil
def laws_eqBoolS_sh (r_ : Bool) : V × List V := ((V.bool r_), [])
theorem laws_eqBoolS_e (a : List V) (b : List V) : Agr (wkF [[.dead]] []) laws_eqBoolS_sh (laws_eqBoolS a b) (evalFn laws_eqBoolS_c laws_eqBoolS_L Try.f49 [(V.inl t_bool a), (V.inl t_bool b)]) := by
  have h : evalFn laws_eqBoolS_c laws_eqBoolS_L Try.f49 [(V.inl t_bool a), (V.inl t_bool b)] = (bif (!(decide ((ln a) = (ln b)))) then some ((V.bool false), []) else rcall (laws_eqBoolS_l4 (((ln a) - 0).toNat + 1) a b 0) fun r147 => bif (Nat.beq r147.1 0) then some ((V.bool r147.2), []) else some ((V.bool true), [])) := by kernel_rfl
  rw [h, laws_eqBoolS]
  clear h
  repeat' (first | exact A0 | refine A1 ?_ ?_ | refine A2 fun _ => ?_ | refine A3 fun _ => ?_ | exact A4 (by kernel_rfl))
def laws_eqBoolS_A : List S2 := [(.one (.inl t_bool)), (.one (.inl t_bool))]
def laws_eqBoolS_F (args : List V) : Option (Bool) := laws_eqBoolS ((rd args 0).L) ((rd args 1).L)
def laws_eqBoolS_s (args : List V) : Option (Bool × (V × List V)) := bif argsOk laws_eqBoolS_A args then some ((laws_eqBoolS_F args).isSome, laws_eqBoolS_sh ((laws_eqBoolS_F args).getD default)) else none
theorem laws_eqBoolS_s_ok : ∀ args r, laws_eqBoolS_s args = some (true, r) → SumOk Try.prog tab 49 args r :=
  Base.sum (cfg := laws_eqBoolS_c) (F := laws_eqBoolS_F) (shr := laws_eqBoolS_sh) base laws_eqBoolS_c_ok Try.func49 (by kernel_rfl) laws_eqBoolS_lo laws_eqBoolS_A (by kernel_rfl) [[.dead]] [] (by kernel_rfl) fun args h => by
    have q := laws_eqBoolS_e ((rd args 0).L) ((rd args 1).L)
    rw [show [(V.inl t_bool ((rd args 0).L)), (V.inl t_bool ((rd args 1).L))] = args from h] at q
    exact q
def laws_eqIntS_c : Cfg := ⟨tab, sumsOf [], fun _ => false, fun f => (look [] f).getD [], false, fun _ => false⟩
theorem laws_eqIntS_c_ok : SumsOk Try.prog tab laws_eqIntS_c.sums := sums_nil
def laws_eqIntS_l4_F (st : St) : Option (Nat × Bool) := laws_eqIntS_l4 ((((((sv st 0).L).length : Nat) : Int) - ((sv st 2).I)).toNat + 1) ((sv st 0).L) ((sv st 1).L) ((sv st 2).I)
def laws_eqIntS_l4_ps (r_ : Nat × Bool) : List (Ex × St) := [(Ex.ret, (⟨[(4, (V.bool r_.2))], [], 0, []⟩ : St)), ((Ex.exit 0), (⟨[(4, V.dead)], [], 0, []⟩ : St))]
def laws_eqIntS_l4_ss : SS := ⟨[(0, (.one (.inl t_int'))), (1, (.one (.inl t_int'))), (5, (.one (.int .i64)))], [], 0, []⟩
def laws_eqIntS_l4_e : LE := ⟨4, laws_eqIntS_l4_ss, fun st => Out.tst (laws_eqIntS_l4_F st).isSome (brs ((fun r_ => r_.1) ((laws_eqIntS_l4_F st).getD default)) 0 (laws_eqIntS_l4_ps ((laws_eqIntS_l4_F st).getD default)))⟩
def laws_eqIntS_L : Loops := ⟨fun k => (look [(4, [0, 1, 5])] k).getD [], fun k => (look [] k).getD [], fun k => (look [(4, [4])] k).getD [], runL [laws_eqIntS_l4_e]⟩
theorem laws_eqIntS_l4_ok (k_ : Nat) : ∀ (a0 : List V) (b1 : List V) (i5 : Int), Agr id (fun r_ => pick (r_.1) 0 (laws_eqIntS_l4_ps r_)) (laws_eqIntS_l4 k_ a0 b1 i5) (rounds laws_eqIntS_c laws_eqIntS_L ((loopsIn (bodyOf Try.f50)).getD 0 .skip) k_ (⟨[(0, (V.inl t_int' a0)), (1, (V.inl t_int' b1)), (5, (vi i5))], [], 0, []⟩ : St)) := by
  induction k_ with
  | zero => intros; exact A0
  | succ k_ ih =>
    intro a0 b1 i5
    have h : rounds laws_eqIntS_c laws_eqIntS_L ((loopsIn (bodyOf Try.f50)).getD 0 .skip) (k_ + 1) (⟨[(0, (V.inl t_int' a0)), (1, (V.inl t_int' b1)), (5, (vi i5))], [], 0, []⟩ : St) = (bif (decide (i5 < (ln a0))) then bif (idxOk i5 a0.length) then bif (idxOk i5 b1.length) then bif (!(decide ((gi (rd a0 i5.toNat) 0) = (gi (rd b1 i5.toNat) 0)))) then some (Ex.ret, (⟨[(4, (V.bool false))], [], 0, []⟩ : St)) else rounds laws_eqIntS_c laws_eqIntS_L ((loopsIn (bodyOf Try.f50)).getD 0 .skip) k_ (⟨[(0, (V.inl t_int' a0)), (1, (V.inl t_int' b1)), (5, (vi (w6 (i5 + 1))))], [], 0, []⟩ : St) else none else none else some ((Ex.exit 0), (⟨[(4, V.dead)], [], 0, []⟩ : St))) := by kernel_rfl
    rw [h, laws_eqIntS_l4]
    clear h
    repeat' (first | exact A0 | refine A1 ?_ ?_ | refine A2 fun _ => ?_ | refine A3 fun _ => ?_ | exact A4 (by kernel_rfl) | exact ih _ _ _)
theorem laws_eqIntS_lo : LoopsOk laws_eqIntS_c laws_eqIntS_L (bodyOf Try.f50) := by
  refine GoodAll.ok (l := [laws_eqIntS_l4_e]) ?_ rfl
  refine GoodAll.cons 0 (by kernel_rfl) ?_ ?_
  · exact good_of (key := 4) (ss := laws_eqIntS_l4_ss) (F := laws_eqIntS_l4_F) (ix := fun r_ => r_.1) (ps := laws_eqIntS_l4_ps) (fun st => (((((sv st 0).L).length : Nat) : Int) - ((sv st 2).I)).toNat + 1) fun st h => by
      have q := laws_eqIntS_l4_ok ((((((sv st 0).L).length : Nat) : Int) - ((sv st 2).I)).toNat + 1) ((sv st 0).L) ((sv st 1).L) ((sv st 2).I)
      rw [show (⟨[(0, (V.inl t_int' ((sv st 0).L))), (1, (V.inl t_int' ((sv st 1).L))), (5, (vi ((sv st 2).I)))], [], 0, []⟩ : St) = st from h] at q
      exact q
  exact GoodAll.nil
def laws_eqIntS_sh (r_ : Bool) : V × List V := ((V.bool r_), [])
theorem laws_eqIntS_e (a : List V) (b : List V) : Agr (wkF [[.dead]] []) laws_eqIntS_sh (laws_eqIntS a b) (evalFn laws_eqIntS_c laws_eqIntS_L Try.f50 [(V.inl t_int' a), (V.inl t_int' b)]) := by
  have h : evalFn laws_eqIntS_c laws_eqIntS_L Try.f50 [(V.inl t_int' a), (V.inl t_int' b)] = (bif (!(decide ((ln a) = (ln b)))) then some ((V.bool false), []) else rcall (laws_eqIntS_l4 (((ln a) - 0).toNat + 1) a b 0) fun r149 => bif (Nat.beq r149.1 0) then some ((V.bool r149.2), []) else some ((V.bool true), [])) := by kernel_rfl
  rw [h, laws_eqIntS]
  clear h
  repeat' (first | exact A0 | refine A1 ?_ ?_ | refine A2 fun _ => ?_ | refine A3 fun _ => ?_ | exact A4 (by kernel_rfl))
def laws_eqIntS_A : List S2 := [(.one (.inl t_int')), (.one (.inl t_int'))]
def laws_eqIntS_F (args : List V) : Option (Bool) := laws_eqIntS ((rd args 0).L) ((rd args 1).L)
def laws_eqIntS_s (args : List V) : Option (Bool × (V × List V)) := bif argsOk laws_eqIntS_A args then some ((laws_eqIntS_F args).isSome, laws_eqIntS_sh ((laws_eqIntS_F args).getD default)) else none
theorem laws_eqIntS_s_ok : ∀ args r, laws_eqIntS_s args = some (true, r) → SumOk Try.prog tab 50 args r :=
  Base.sum (cfg := laws_eqIntS_c) (F := laws_eqIntS_F) (shr := laws_eqIntS_sh) base laws_eqIntS_c_ok Try.func50 (by kernel_rfl) laws_eqIntS_lo laws_eqIntS_A (by kernel_rfl) [[.dead]] [] (by kernel_rfl) fun args h => by
    have q := laws_eqIntS_e ((rd args 0).L) ((rd args 1).L)
    rw [show [(V.inl t_int' ((rd args 0).L)), (V.inl t_int' ((rd args 1).L))] = args from h] at q
    exact q
def laws_eqNode_c : Cfg := ⟨tab, sumsOf [(48, laws_eqItemS_s), (49, laws_eqBoolS_s), (50, laws_eqIntS_s)], fun _ => false, fun f => (look [(48, [some t_impl_Item, some t_impl_Item]), (49, [some t_bool, some t_bool]), (50, [some t_int', some t_int'])] f).getD [], false, fun _ => false⟩
theorem laws_eqNode_c_ok : SumsOk Try.prog tab laws_eqNode_c.sums := sums_cons f48_en laws_eqItemS_s_ok (sums_cons f49_en laws_eqBoolS_s_ok (sums_cons f50_en laws_eqIntS_s_ok (sums_nil)))
abbrev laws_eqNode_L : Loops := noL
def laws_eqNode_sh (r_ : Bool) : V × List V := ((V.bool r_), [])
set_option maxRecDepth 100000 in
theorem laws_eqNode_e (a : V) (b : V) : Agr (wkF [[.dead]] []) laws_eqNode_sh (laws_eqNode a b) (evalFn laws_eqNode_c laws_eqNode_L Try.f12 [(n_impl_Node a), (n_impl_Node b)]) := by
  have h : evalFn laws_eqNode_c laws_eqNode_L Try.f12 [(n_impl_Node a), (n_impl_Node b)] = (bif (!(decide ((gi a 0) = (gi b 0)))) then some ((V.bool false), []) else bif (!(decide ((gi a 1) = (gi b 1)))) then some ((V.bool false), []) else bif (!(decide ((gi a 2) = (gi b 2)))) then some ((V.bool false), []) else rcall (laws_eqItemS (gl a 3) (gl b 3)) fun r146 => bif (!r146) then some ((V.bool false), []) else bif (!(decide ((gi a 4) = (gi b 4)))) then some ((V.bool false), []) else bif (!(decide ((gi a 5) = (gi b 5)))) then some ((V.bool false), []) else bif (!(decide ((gi a 6) = (gi b 6)))) then some ((V.bool false), []) else bif (!(decide ((gi a 7) = (gi b 7)))) then some ((V.bool false), []) else rcall (laws_eqBoolS (gl a 8) (gl b 8)) fun r148 => bif (!r148) then some ((V.bool false), []) else rcall (laws_eqIntS (gl a 9) (gl b 9)) fun r150 => bif (!r150) then some ((V.bool false), []) else rcall (laws_eqIntS (gl a 10) (gl b 10)) fun r151 => bif (!r151) then some ((V.bool false), []) else some ((V.bool true), [])) := by kernel_rfl
  rw [h, laws_eqNode]
  clear h
  repeat' (first | exact A0 | refine A1 ?_ ?_ | refine A2 fun _ => ?_ | refine A3 fun _ => ?_ | exact A4 (by kernel_rfl))
def laws_eqNode_A : List S2 := [(.agg q13), (.agg q13)]
def laws_eqNode_F (args : List V) : Option (Bool) := laws_eqNode (rd args 0) (rd args 1)
def laws_eqNode_s (args : List V) : Option (Bool × (V × List V)) := bif argsOk laws_eqNode_A args then some ((laws_eqNode_F args).isSome, laws_eqNode_sh ((laws_eqNode_F args).getD default)) else none
theorem laws_eqNode_s_ok : ∀ args r, laws_eqNode_s args = some (true, r) → SumOk Try.prog tab 12 args r :=
  Base.sum (cfg := laws_eqNode_c) (F := laws_eqNode_F) (shr := laws_eqNode_sh) base laws_eqNode_c_ok Try.func12 (by kernel_rfl) noLo laws_eqNode_A (by kernel_rfl) [[.dead]] [] (by kernel_rfl) fun args h => by
    have q := laws_eqNode_e (rd args 0) (rd args 1)
    rw [show [(n_impl_Node (rd args 0)), (n_impl_Node (rd args 1))] = args from h] at q
    exact q
def laws_eqMsg_c : Cfg := ⟨tab, sumsOf [(48, laws_eqItemS_s)], fun _ => false, fun f => (look [(48, [some t_impl_Item, some t_impl_Item])] f).getD [], false, fun _ => false⟩
theorem laws_eqMsg_c_ok : SumsOk Try.prog tab laws_eqMsg_c.sums := sums_cons f48_en laws_eqItemS_s_ok (sums_nil)
abbrev laws_eqMsg_L : Loops := noL
def laws_eqMsg_sh (r_ : Bool) : V × List V := ((V.bool r_), [])
set_option maxRecDepth 100000 in
theorem laws_eqMsg_e (a : V) (b : V) : Agr (wkF [[.dead]] []) laws_eqMsg_sh (laws_eqMsg a b) (evalFn laws_eqMsg_c laws_eqMsg_L Try.f17 [(n_impl_Msg a), (n_impl_Msg b)]) := by
  have h : evalFn laws_eqMsg_c laws_eqMsg_L Try.f17 [(n_impl_Msg a), (n_impl_Msg b)] = (bif (!(decide ((gi a 0) = (gi b 0)))) then some ((V.bool false), []) else bif (!(decide ((gi a 1) = (gi b 1)))) then some ((V.bool false), []) else bif (!(decide ((gi a 2) = (gi b 2)))) then some ((V.bool false), []) else bif (!(decide ((gi a 3) = (gi b 3)))) then some ((V.bool false), []) else bif (!(decide ((gi a 4) = (gi b 4)))) then some ((V.bool false), []) else bif (!(decide ((gi a 5) = (gi b 5)))) then some ((V.bool false), []) else rcall (laws_eqItemS (gl a 6) (gl b 6)) fun r153 => bif (!r153) then some ((V.bool false), []) else bif (!(decide ((gi a 7) = (gi b 7)))) then some ((V.bool false), []) else bif (!((gb a 8) == (gb b 8))) then some ((V.bool false), []) else some ((V.bool true), [])) := by kernel_rfl
  rw [h, laws_eqMsg]
  clear h
  repeat' (first | exact A0 | refine A1 ?_ ?_ | refine A2 fun _ => ?_ | refine A3 fun _ => ?_ | exact A4 (by kernel_rfl))
def laws_eqMsg_A : List S2 := [(.agg q51), (.agg q51)]
def laws_eqMsg_F (args : List V) : Option (Bool) := laws_eqMsg (rd args 0) (rd args 1)
def laws_eqMsg_s (args : List V) : Option (Bool × (V × List V)) := bif argsOk laws_eqMsg_A args then some ((laws_eqMsg_F args).isSome, laws_eqMsg_sh ((laws_eqMsg_F args).getD default)) else none
theorem laws_eqMsg_s_ok : ∀ args r, laws_eqMsg_s args = some (true, r) → SumOk Try.prog tab 17 args r :=
  Base.sum (cfg := laws_eqMsg_c) (F := laws_eqMsg_F) (shr := laws_eqMsg_sh) base laws_eqMsg_c_ok Try.func17 (by kernel_rfl) noLo laws_eqMsg_A (by kernel_rfl) [[.dead]] [] (by kernel_rfl) fun args h => by
    have q := laws_eqMsg_e (rd args 0) (rd args 1)
    rw [show [(n_impl_Msg (rd args 0)), (n_impl_Msg (rd args 1))] = args from h] at q
    exact q
def laws_eqMsgS_c : Cfg := ⟨tab, sumsOf [(17, laws_eqMsg_s)], fun _ => false, fun f => (look [(17, [none, none])] f).getD [], false, fun _ => false⟩
theorem laws_eqMsgS_c_ok : SumsOk Try.prog tab laws_eqMsgS_c.sums := sums_cons f17_en laws_eqMsg_s_ok (sums_nil)
def laws_eqMsgS_l4_F (st : St) : Option (Nat × Bool) := laws_eqMsgS_l4 ((((((sv st 0).L).length : Nat) : Int) - ((sv st 2).I)).toNat + 1) ((sv st 0).L) ((sv st 1).L) ((sv st 2).I)
def laws_eqMsgS_l4_ps (r_ : Nat × Bool) : List (Ex × St) := [(Ex.ret, (⟨[(4, (V.bool r_.2))], [], 0, []⟩ : St)), ((Ex.exit 0), (⟨[(4, V.dead)], [], 0, []⟩ : St))]
def laws_eqMsgS_l4_ss : SS := ⟨[(0, (.one (.inl t_impl_Msg))), (1, (.one (.inl t_impl_Msg))), (5, (.one (.int .i64)))], [], 0, []⟩
def laws_eqMsgS_l4_e : LE := ⟨4, laws_eqMsgS_l4_ss, fun st => Out.tst (laws_eqMsgS_l4_F st).isSome (brs ((fun r_ => r_.1) ((laws_eqMsgS_l4_F st).getD default)) 0 (laws_eqMsgS_l4_ps ((laws_eqMsgS_l4_F st).getD default)))⟩
def laws_eqMsgS_L : Loops := ⟨fun k => (look [(4, [0, 1, 5])] k).getD [], fun k => (look [] k).getD [], fun k => (look [(4, [4])] k).getD [], runL [laws_eqMsgS_l4_e]⟩
theorem laws_eqMsgS_l4_ok (k_ : Nat) : ∀ (a0 : List V) (b1 : List V) (i5 : Int), Agr id (fun r_ => pick (r_.1) 0 (laws_eqMsgS_l4_ps r_)) (laws_eqMsgS_l4 k_ a0 b1 i5) (rounds laws_eqMsgS_c laws_eqMsgS_L ((loopsIn (bodyOf Try.f24)).getD 0 .skip) k_ (⟨[(0, (V.inl t_impl_Msg a0)), (1, (V.inl t_impl_Msg b1)), (5, (vi i5))], [], 0, []⟩ : St)) := by
  induction k_ with
  | zero => intros; exact A0
  | succ k_ ih =>
    intro a0 b1 i5
    have h : rounds laws_eqMsgS_c laws_eqMsgS_L ((loopsIn (bodyOf Try.f24)).getD 0 .skip) (k_ + 1) (⟨[(0, (V.inl t_impl_Msg a0)), (1, (V.inl t_impl_Msg b1)), (5, (vi i5))], [], 0, []⟩ : St) = (bif (decide (i5 < (ln a0))) then bif (idxOk i5 a0.length) then bif (idxOk i5 b1.length) then rcall (laws_eqMsg (n_impl_Msg (rd a0 i5.toNat)) (n_impl_Msg (rd b1 i5.toNat))) fun r154 => bif (!r154) then some (Ex.ret, (⟨[(4, (V.bool false))], [], 0, []⟩ : St)) else rounds laws_eqMsgS_c laws_eqMsgS_L ((loopsIn (bodyOf Try.f24)).getD 0 .skip) k_ (⟨[(0, (V.inl t_impl_Msg a0)), (1, (V.inl t_impl_Msg b1)), (5, (vi (w6 (i5 + 1))))], [], 0, []⟩ : St) else none else none else some ((Ex.exit 0), (⟨[(4, V.dead)], [], 0, []⟩ : St))) := by kernel_rfl
    rw [h, laws_eqMsgS_l4]
    clear h
    repeat' (first | exact A0 | refine A1 ?_ ?_ | refine A2 fun _ => ?_ | refine A3 fun _ => ?_ | exact A4 (by kernel_rfl) | exact ih _ _ _)
theorem laws_eqMsgS_lo : LoopsOk laws_eqMsgS_c laws_eqMsgS_L (bodyOf Try.f24) := by
  refine GoodAll.ok (l := [laws_eqMsgS_l4_e]) ?_ rfl
  refine GoodAll.cons 0 (by kernel_rfl) ?_ ?_
  · exact good_of (key := 4) (ss := laws_eqMsgS_l4_ss) (F := laws_eqMsgS_l4_F) (ix := fun r_ => r_.1) (ps := laws_eqMsgS_l4_ps) (fun st => (((((sv st 0).L).length : Nat) : Int) - ((sv st 2).I)).toNat + 1) fun st h => by
      have q := laws_eqMsgS_l4_ok ((((((sv st 0).L).length : Nat) : Int) - ((sv st 2).I)).toNat + 1) ((sv st 0).L) ((sv st 1).L) ((sv st 2).I)
      rw [show (⟨[(0, (V.inl t_impl_Msg ((sv st 0).L))), (1, (V.inl t_impl_Msg ((sv st 1).L))), (5, (vi ((sv st 2).I)))], [], 0, []⟩ : St) = st from h] at q
      exact q
  exact GoodAll.nil
def laws_eqMsgS_sh (r_ : Bool) : V × List V := ((V.bool r_), [])
theorem laws_eqMsgS_e (a : List V) (b : List V) : Agr (wkF [[.dead]] []) laws_eqMsgS_sh (laws_eqMsgS a b) (evalFn laws_eqMsgS_c laws_eqMsgS_L Try.f24 [(V.inl t_impl_Msg a), (V.inl t_impl_Msg b)]) := by
  have h : evalFn laws_eqMsgS_c laws_eqMsgS_L Try.f24 [(V.inl t_impl_Msg a), (V.inl t_impl_Msg b)] = (bif (!(decide ((ln a) = (ln b)))) then some ((V.bool false), []) else rcall (laws_eqMsgS_l4 (((ln a) - 0).toNat + 1) a b 0) fun r155 => bif (Nat.beq r155.1 0) then some ((V.bool r155.2), []) else some ((V.bool true), [])) := by kernel_rfl
  rw [h, laws_eqMsgS]
  clear h
  repeat' (first | exact A0 | refine A1 ?_ ?_ | refine A2 fun _ => ?_ | refine A3 fun _ => ?_ | exact A4 (by kernel_rfl))
def laws_eqMsgS_A : List S2 := [(.one (.inl t_impl_Msg)), (.one (.inl t_impl_Msg))]
def laws_eqMsgS_F (args : List V) : Option (Bool) := laws_eqMsgS ((rd args 0).L) ((rd args 1).L)
def laws_eqMsgS_s (args : List V) : Option (Bool × (V × List V)) := bif argsOk laws_eqMsgS_A args then some ((laws_eqMsgS_F args).isSome, laws_eqMsgS_sh ((laws_eqMsgS_F args).getD default)) else none
theorem laws_eqMsgS_s_ok : ∀ args r, laws_eqMsgS_s args = some (true, r) → SumOk Try.prog tab 24 args r :=
  Base.sum (cfg := laws_eqMsgS_c) (F := laws_eqMsgS_F) (shr := laws_eqMsgS_sh) base laws_eqMsgS_c_ok Try.func24 (by kernel_rfl) laws_eqMsgS_lo laws_eqMsgS_A (by kernel_rfl) [[.dead]] [] (by kernel_rfl) fun args h => by
    have q := laws_eqMsgS_e ((rd args 0).L) ((rd args 1).L)
    rw [show [(V.inl t_impl_Msg ((rd args 0).L)), (V.inl t_impl_Msg ((rd args 1).L))] = args from h] at q
    exact q
end Go.Eng.R
