/- An own evaluator of the program's form, proved sound, and what it says of this law's functions: part 4. -/
import Derived.Test.YtjgohlneldmmjaaE3
set_option linter.unusedVariables false
open Go Go.Eng Go.Proofs
namespace Go.Eng.R
noncomputable def c71 : Cfg := cfgOf (P := Try.prog) (tab := tab) [] false []
def a71_0 (r_ : List V × Int) : List (Ex × St) := [((Ex.exit 0), (⟨[(0, (V.inl t_byte r_.1)), (3, (vi r_.2))], [], 0, []⟩ : St))]
def s71_0 : SS := ⟨[(0, (.one (.inl t_byte))), (3, (.one (.int .i64))), (4, (.one (.int .i64)))], [], 0, []⟩
noncomputable def l71_0 : LE := le0 3 s71_0 (fun st => spec_l1New_l3 ((((((sv st 0).L).length : Nat) : Int) - ((sv st 2).I)).toNat + 1) ((sv st 0).L) ((sv st 1).I) ((sv st 2).I)) a71_0
noncomputable def L71 : Loops := ⟨fun k => (look [(3, [0, 3, 4])] k).getD [], fun _ => [], fun k => (look [(3, [0, 3])] k).getD [], runL [l71_0], [], fun _ => []⟩
theorem t71_0 (k_ : Nat) : ∀ (code0 : List V) (h3 : Int) (i4 : Int), Agr id (pk0 a71_0) (spec_l1New_l3 k_ code0 h3 i4) (rounds c71 L71 (lpB Try.f71 0) k_ (s71_0.mk' (stv [V.inl 0 code0, vi h3, vi i4] []))) := by
  induction k_ with
  | zero => exact fun _ _ _ => g0
  | succ k_ ih => exact fun _ _ _ => gA (g1 (g1 (g1 (ih _ _ _) g0) g4) g4) (by kernel_rfl)
theorem o71 : LoopsOk c71 L71 (bodyOf Try.f71) := GoodAll.ok (l := [l71_0]) (.cons 0 (by kernel_rfl) (gd0 (fun st => (((((sv st 0).L).length : Nat) : Int) - ((sv st 2).I)).toNat + 1) (fun st => t71_0 _ _ _ _) fun st => by kernel_rfl) (.nil)) rfl
noncomputable def e71 : En Try.prog tab := enP base [] false [] Try.func71 (L := L71) o71 [(.one (.inl t_byte))] (fun a => spec_l1New ((rd a 0).L)) (fun r_ : V => ((V.nb t_spec_l1Cur (l0 r_)), [])) [[(.inl t_byte)]] [] [some t_byte] false (by kernel_rfl) fun _ => gA (g2 fun _ => g4) (by kernel_rfl)
noncomputable def e132 : En Try.prog tab := enP base [] false [] Try.func132 noLo [(.rf t_spec_l1Cur [(.inl t_byte), (.int .i64), (.int .i64)])] (fun a => spec_l1Byte ((rd a 0).unbox)) (fun r_ : Int × V => ((vi r_.1), [(V.rf t_spec_l1Cur (l0 r_.2))])) [] [[(.inl t_byte)]] [none] false (by kernel_rfl) fun _ => gA (g1 (g1 g4 g0) g4) (by kernel_rfl)
set_option maxRecDepth 100000 in
noncomputable def e83 : En Try.prog tab := enP base [e132] false [] Try.func83 noLo [(.rf t_spec_l1Cur [(.inl t_byte), (.int .i64), (.int .i64)]), (.one (.int .i64))] (fun a => spec_l1Below ((rd a 0).unbox) ((rd a 1).I)) (fun r_ : Int × V => ((vi r_.1), [(V.rf t_spec_l1Cur (l0 r_.2))])) [] [[(.inl t_byte)]] [none, none] false (by kernel_rfl) fun _ => gA (g1 g4 (g1 (g2 fun _ => g1 g4 g0) (g2 fun _ => g2 fun _ => g2 fun _ => g2 fun _ => g1 g4 g0))) (by kernel_rfl)
noncomputable def e73 : En Try.prog tab := enP base [e83] false [] Try.func73 noLo [(.rf t_spec_l1Cur [(.inl t_byte), (.int .i64), (.int .i64)]), (.one (.inl t_int'))] (fun a => spec_l1PickInt ((rd a 0).unbox) ((rd a 1).L)) (fun r_ : Int × V => ((vi r_.1), [(V.rf t_spec_l1Cur (l0 r_.2))])) [] [[(.inl t_byte)]] [none, some t_int'] false (by kernel_rfl) fun _ => gA (g2 fun _ => g1 g4 g0) (by kernel_rfl)
noncomputable def e79 : En Try.prog tab := enP base [e73] false [] Try.func79 noLo [(.rf t_spec_l1Cur [(.inl t_byte), (.int .i64), (.int .i64)])] (fun a => spec_l4count ((rd a 0).unbox)) (fun r_ : Int × V => ((vi r_.1), [(V.rf t_spec_l1Cur (l0 r_.2))])) [] [[(.inl t_byte)]] [none] false (by kernel_rfl) fun _ => gA (g2 fun _ => g4) (by kernel_rfl)
noncomputable def e161 : En Try.prog tab := enP base [] false [] Try.func161 noLo [(.one (.int .i64)), (.one (.int .i64))] (fun a => spec_l4new ((rd a 0).I) ((rd a 1).I)) (fun r_ : V => ((h1 r_), [])) [q2] [] [none, none] false (by kernel_rfl) fun _ => gA (g1 (g1 (g1 g4 g0) g0) g0) (by kernel_rfl)
noncomputable def e195 : En Try.prog tab := enP base [e83] false [] Try.func195 noLo [(.rf t_spec_l1Cur [(.inl t_byte), (.int .i64), (.int .i64)])] (fun a => spec_l2drawVal ((rd a 0).unbox)) (fun r_ : List V × V => ((V.inl t_byte r_.1), [(V.rf t_spec_l1Cur (l0 r_.2))])) [[(.inl t_byte)]] [[(.inl t_byte)]] [none] false (by kernel_rfl) fun _ => gA (g2 fun _ => g1 g4 g0) (by kernel_rfl)
noncomputable def e145 : En Try.prog tab := enP base [e83] false [] Try.func145 noLo [(.rf t_spec_l1Cur [(.inl t_byte), (.int .i64), (.int .i64)])] (fun a => spec_l2drawKey ((rd a 0).unbox)) (fun r_ : List V × V => ((V.inl t_byte r_.1), [(V.rf t_spec_l1Cur (l0 r_.2))])) [[(.inl t_byte)]] [[(.inl t_byte)]] [none] false (by kernel_rfl) fun _ => gA (g2 fun _ => g1 g4 g0) (by kernel_rfl)
set_option maxRecDepth 100000 in
noncomputable def e163 : En Try.prog tab := enP base [e73, e195, e145, e83] false [] Try.func163 noLo [(.rf t_spec_l1Cur [(.inl t_byte), (.int .i64), (.int .i64)]), (.one (.int .i64))] (fun a => spec_l2op ((rd a 0).unbox) ((rd a 1).I)) (fun r_ : V × V => ((n_impl_Op r_.1), [(V.rf t_spec_l1Cur (l0 r_.2))])) [[.dead, (.inl t_byte), (.inl t_byte)]] [[(.inl t_byte)]] [none, none] false (by kernel_rfl) fun _ => gA (g2 fun _ => g1 (g2 fun _ => g1 (g1 (g1 (g2 fun _ => g1 (g2 fun _ => g4) (g1 (g2 fun _ => g2 fun _ => g4) (g1 (g2 fun _ => g1 (g2 fun _ => g4) g4) (g1 (g2 fun _ => g1 (g2 fun _ => g4) g4) (g1 (g2 fun _ => g1 (g2 fun _ => g4) g4) g4))))) (g1 (g2 fun _ => g4) (g1 (g2 fun _ => g2 fun _ => g4) (g1 (g2 fun _ => g1 (g2 fun _ => g4) g4) (g1 (g2 fun _ => g1 (g2 fun _ => g4) g4) (g1 (g2 fun _ => g1 (g2 fun _ => g4) g4) g4)))))) (g1 (g2 fun _ => g4) (g1 (g2 fun _ => g2 fun _ => g4) (g1 (g2 fun _ => g1 (g2 fun _ => g4) g4) (g1 (g2 fun _ => g1 (g2 fun _ => g4) g4) (g1 (g2 fun _ => g1 (g2 fun _ => g4) g4) g4)))))) (g1 (g2 fun _ => g4) (g1 (g2 fun _ => g2 fun _ => g4) (g1 (g2 fun _ => g1 (g2 fun _ => g4) g4) (g1 (g2 fun _ => g1 (g2 fun _ => g4) g4) (g1 (g2 fun _ => g1 (g2 fun _ => g4) g4) g4)))))) (g1 (g2 fun _ => g1 (g1 (g1 (g2 fun _ => g1 (g2 fun _ => g4) (g1 (g2 fun _ => g2 fun _ => g4) (g1 (g2 fun _ => g1 (g2 fun _ => g4) g4) (g1 (g2 fun _ => g1 (g2 fun _ => g4) g4) (g1 (g2 fun _ => g1 (g2 fun _ => g4) g4) g4))))) (g1 (g2 fun _ => g4) (g1 (g2 fun _ => g2 fun _ => g4) (g1 (g2 fun _ => g1 (g2 fun _ => g4) g4) (g1 (g2 fun _ => g1 (g2 fun _ => g4) g4) (g1 (g2 fun _ => g1 (g2 fun _ => g4) g4) g4)))))) (g1 (g2 fun _ => g4) (g1 (g2 fun _ => g2 fun _ => g4) (g1 (g2 fun _ => g1 (g2 fun _ => g4) g4) (g1 (g2 fun _ => g1 (g2 fun _ => g4) g4) (g1 (g2 fun _ => g1 (g2 fun _ => g4) g4) g4)))))) (g1 (g2 fun _ => g4) (g1 (g2 fun _ => g2 fun _ => g4) (g1 (g2 fun _ => g1 (g2 fun _ => g4) g4) (g1 (g2 fun _ => g1 (g2 fun _ => g4) g4) (g1 (g2 fun _ => g1 (g2 fun _ => g4) g4) g4)))))) (g1 (g2 fun _ => g1 (g1 (g1 (g2 fun _ => g1 (g2 fun _ => g4) (g1 (g2 fun _ => g2 fun _ => g4) (g1 (g2 fun _ => g1 (g2 fun _ => g4) g4) (g1 (g2 fun _ => g1 (g2 fun _ => g4) g4) (g1 (g2 fun _ => g1 (g2 fun _ => g4) g4) g4))))) (g1 (g2 fun _ => g4) (g1 (g2 fun _ => g2 fun _ => g4) (g1 (g2 fun _ => g1 (g2 fun _ => g4) g4) (g1 (g2 fun _ => g1 (g2 fun _ => g4) g4) (g1 (g2 fun _ => g1 (g2 fun _ => g4) g4) g4)))))) (g1 (g2 fun _ => g4) (g1 (g2 fun _ => g2 fun _ => g4) (g1 (g2 fun _ => g1 (g2 fun _ => g4) g4) (g1 (g2 fun _ => g1 (g2 fun _ => g4) g4) (g1 (g2 fun _ => g1 (g2 fun _ => g4) g4) g4)))))) (g1 (g2 fun _ => g4) (g1 (g2 fun _ => g2 fun _ => g4) (g1 (g2 fun _ => g1 (g2 fun _ => g4) g4) (g1 (g2 fun _ => g1 (g2 fun _ => g4) g4) (g1 (g2 fun _ => g1 (g2 fun _ => g4) g4) g4)))))) (g1 (g1 (g1 (g2 fun _ => g1 (g2 fun _ => g4) (g1 (g2 fun _ => g2 fun _ => g4) (g1 (g2 fun _ => g1 (g2 fun _ => g4) g4) (g1 (g2 fun _ => g1 (g2 fun _ => g4) g4) (g1 (g2 fun _ => g1 (g2 fun _ => g4) g4) g4))))) (g1 (g2 fun _ => g4) (g1 (g2 fun _ => g2 fun _ => g4) (g1 (g2 fun _ => g1 (g2 fun _ => g4) g4) (g1 (g2 fun _ => g1 (g2 fun _ => g4) g4) (g1 (g2 fun _ => g1 (g2 fun _ => g4) g4) g4)))))) (g1 (g2 fun _ => g4) (g1 (g2 fun _ => g2 fun _ => g4) (g1 (g2 fun _ => g1 (g2 fun _ => g4) g4) (g1 (g2 fun _ => g1 (g2 fun _ => g4) g4) (g1 (g2 fun _ => g1 (g2 fun _ => g4) g4) g4)))))) (g1 (g2 fun _ => g4) (g1 (g2 fun _ => g2 fun _ => g4) (g1 (g2 fun _ => g1 (g2 fun _ => g4) g4) (g1 (g2 fun _ => g1 (g2 fun _ => g4) g4) (g1 (g2 fun _ => g1 (g2 fun _ => g4) g4) g4))))))))) (by kernel_rfl)
noncomputable def e82 : En Try.prog tab := enP base [e83] false [] Try.func82 noLo [(.rf t_spec_l1Cur [(.inl t_byte), (.int .i64), (.int .i64)]), (.one (.int .i64))] (fun a => spec_l1Once ((rd a 0).unbox) ((rd a 1).I)) (fun r_ : Bool × V => ((V.bool r_.1), [(V.rf t_spec_l1Cur (l0 r_.2))])) [] [[(.inl t_byte)]] [none, none] false (by kernel_rfl) fun _ => gA (g2 fun _ => g4) (by kernel_rfl)
noncomputable def e130 : En Try.prog tab := enP base [e83, e163, e82] false [] Try.func130 noLo [(.rf t_spec_l1Cur [(.inl t_byte), (.int .i64), (.int .i64)]), (.one (.int .i64))] (fun a => spec_l3drawItem ((rd a 0).unbox) ((rd a 1).I)) (fun r_ : V × V => ((n_impl_Item r_.1), [(V.rf t_spec_l1Cur (l0 r_.2))])) [q3] [[(.inl t_byte)]] [none, none] false (by kernel_rfl) fun _ => gA (g2 fun _ => g2 fun _ => g2 fun _ => g2 fun _ => g1 g4 g4) (by kernel_rfl)
noncomputable def c162 : Cfg := cfgOf (P := Try.prog) (tab := tab) [e83, e130] false []
def a162_0 (r_ : V × List V) : List (Ex × St) := [((Ex.exit 0), (⟨[(5, (vs 1 t_impl_Item))], [(0, some (Blk.box t_spec_l1Cur (l0 r_.1))), (1, some (Blk.row t_impl_Item false r_.2))], 2, [0]⟩ : St))]
def s162_0 : SS := ⟨[(0, (.one (.bp 0 0))), (1, (.one (.int .i64))), (5, (.one (.sl 1 t_impl_Item))), (6, (.one (.int .i64))), (7, (.one (.int .i64)))], [(.box t_spec_l1Cur [(.inl t_byte), (.int .i64), (.int .i64)]), (.row t_impl_Item false)], 2, [0]⟩
noncomputable def l162_0 : LE := le0 4 s162_0 (fun st => spec_l3drawLog_l4 ((((sv st 1).I) - ((sv st 4).I)).toNat + 1) ((sv st 1).I) ((sv st 3).I) ((sv st 4).I) (bc st 0) (br st 1)) a162_0
noncomputable def L162 : Loops := ⟨fun k => (look [(4, [0, 1, 5, 6, 7])] k).getD [], fun k => (look [(4, [⟨5, none, false⟩])] k).getD [], fun k => (look [(4, [5])] k).getD [], runL [l162_0], [], fun _ => []⟩
theorem t162_0 (k_ : Nat) : ∀ (n1 : Int) (t6 : Int) (i7 : Int) (b0 : V) (r1 : List V), Agr id (pk0 a162_0) (spec_l3drawLog_l4 k_ n1 t6 i7 b0 r1) (rounds c162 L162 (lpB Try.f162 0) k_ (s162_0.mk' (stv [.dead, vi n1, .dead, vi t6, vi i7] [bx b0, rb r1]))) := by
  induction k_ with
  | zero => exact fun _ _ _ _ _ => g0
  | succ k_ ih => exact fun _ _ _ _ _ => gA (g1 (g2 fun _ => g2 fun _ => g1 (ih _ _ _ _ _) g0) g4) (by kernel_rfl)
theorem o162 : LoopsOk c162 L162 (bodyOf Try.f162) := GoodAll.ok (l := [l162_0]) (.cons 0 (by kernel_rfl) (gd0 (fun st => (((sv st 1).I) - ((sv st 4).I)).toNat + 1) (fun st => t162_0 _ _ _ _ _ _) fun st => by kernel_rfl) (.nil)) rfl
noncomputable def e162 : En Try.prog tab := enP base [e83, e130] false [] Try.func162 (L := L162) o162 [(.rf t_spec_l1Cur [(.inl t_byte), (.int .i64), (.int .i64)]), (.one (.int .i64))] (fun a => spec_l3drawLog ((rd a 0).unbox) ((rd a 1).I)) (fun r_ : List V × V => ((V.rr t_impl_Item false r_.1), [(V.rf t_spec_l1Cur (l0 r_.2))])) [[(.rr t_impl_Item false)]] [[(.inl t_byte)]] [none, none] false (by kernel_rfl) fun _ => gA (g2 fun _ => g4) (by kernel_rfl)
noncomputable def e84 : En Try.prog tab := enP base [] false [] Try.func84 noLo [(.ep q4 0), (.one (.int .i64))] (fun a => spec_l4termAt ((rd a 0).unbox) ((rd a 1).I)) (fun r_ : Int => ((vi r_), [])) [] [] [none, none] false (by kernel_rfl) fun _ => gA (g1 g4 (g1 g4 (g1 g4 g0))) (by kernel_rfl)
noncomputable def c129 : Cfg := cfgOf (P := Try.prog) (tab := tab) [e83, e161, e162, e84, e82] false [84]
def a129_0 (r_ : V × V × V × List V × List V × List V × List V × List V × List V × List V × List V) : List (Ex × St) := [((Ex.exit 1), (⟨[(4, (V.bp 1 0)), (5, (V.bp 2 0))], [(0, some (Blk.box t_spec_l1Cur (l0 r_.1))), (1, some (Blk.box t_impl_Node (l5 r_.2.1))), (2, some (Blk.box t_impl_Node (l6 r_.2.2.1))), (3, some (Blk.row t_impl_Item true r_.2.2.2.1)), (4, some (Blk.row t_bool true r_.2.2.2.2.1)), (5, some (Blk.row t_int' true r_.2.2.2.2.2.1)), (6, some (Blk.row t_int' true r_.2.2.2.2.2.2.1)), (7, some (Blk.row t_impl_Item false r_.2.2.2.2.2.2.2.1)), (8, some (Blk.row t_bool true r_.2.2.2.2.2.2.2.2.1)), (9, some (Blk.row t_int' true r_.2.2.2.2.2.2.2.2.2.1)), (10, some (Blk.row t_int' true r_.2.2.2.2.2.2.2.2.2.2))], 11, [0]⟩ : St))]
def s129_0 : SS := ⟨[(0, (.one (.bp 0 0))), (1, (.one (.int .i64))), (4, (.one (.bp 1 0))), (5, (.one (.bp 2 0))), (6, (.one (.int .i64))), (7, (.one (.int .i64)))], [(.box t_spec_l1Cur [(.inl t_byte), (.int .i64), (.int .i64)]), (.box t_impl_Node q7), (.box t_impl_Node q8), (.row t_impl_Item true), (.row t_bool true), (.row t_int' true), (.row t_int' true), (.row t_impl_Item false), (.row t_bool true), (.row t_int' true), (.row t_int' true)], 11, [0]⟩
noncomputable def l129_0 : LE := le0 26 s129_0 (fun st => spec_l4node_l26 ((((sv st 1).I) - ((sv st 5).I)).toNat + 1) ((sv st 1).I) ((sv st 4).I) ((sv st 5).I) (bc st 0) (bc st 1) (bc st 2) (br st 3) (br st 4) (br st 5) (br st 6) (br st 7) (br st 8) (br st 9) (br st 10)) a129_0
noncomputable def L129 : Loops := ⟨fun k => (look [(26, [0, 1, 4, 5, 6, 7])] k).getD [], fun k => (look [(26, [⟨4, some 3, true⟩, ⟨4, some 8, true⟩, ⟨4, some 9, true⟩, ⟨4, some 10, true⟩])] k).getD [], fun k => (look [(26, [4, 5])] k).getD [], runL [l129_0], [], fun _ => []⟩
set_option maxRecDepth 100000 in
theorem t129_0 (k_ : Nat) : ∀ (servers1 : Int) (k6 : Int) (i7 : Int) (b0 : V) (b1 : V) (b2 : V) (r3 : List V) (r4 : List V) (r5 : List V) (r6 : List V) (r7 : List V) (r8 : List V) (r9 : List V) (r10 : List V), Agr id (pk0 a129_0) (spec_l4node_l26 k_ servers1 k6 i7 b0 b1 b2 r3 r4 r5 r6 r7 r8 r9 r10) (rounds c129 L129 (lpB Try.f129 0) k_ (s129_0.mk' (stv [.dead, vi servers1, .dead, .dead, vi k6, vi i7] [bx b0, bx b1, bx b2, rb r3, rb r4, rb r5, rb r6, rb r7, rb r8, rb r9, rb r10]))) := by
  induction k_ with
  | zero => exact fun _ _ _ _ _ _ _ _ _ _ _ _ _ _ => g0
  | succ k_ ih => exact fun _ _ _ _ _ _ _ _ _ _ _ _ _ _ => gA (g1 (g2 fun _ => g1 (g1 (g1 (g2 fun _ => g1 (g2 fun _ => g1 (ih _ _ _ _ _ _ _ _ _ _ _ _ _ _) g0) (ih _ _ _ _ _ _ _ _ _ _ _ _ _ _)) g0) g0) g0) g4) (by kernel_rfl)
theorem o129 : LoopsOk c129 L129 (bodyOf Try.f129) := GoodAll.ok (l := [l129_0]) (.cons 0 (by kernel_rfl) (gd0 (fun st => (((sv st 1).I) - ((sv st 5).I)).toNat + 1) (fun st => t129_0 _ _ _ _ _ _ _ _ _ _ _ _ _ _ _) fun st => by kernel_rfl) (.nil)) rfl
set_option maxRecDepth 100000 in
noncomputable def e129 : En Try.prog tab := enP base [e83, e161, e162, e84, e82] false [84] Try.func129 (L := L129) o129 [(.rf t_spec_l1Cur [(.inl t_byte), (.int .i64), (.int .i64)]), (.one (.int .i64))] (fun a => spec_l4node ((rd a 0).unbox) ((rd a 1).I)) (fun r_ : V × V => ((h9 r_.1), [(V.rf t_spec_l1Cur (l0 r_.2))])) [q10] [[(.inl t_byte)]] [none, none] false (by kernel_rfl) fun _ => gA (g2 fun _ => g2 fun _ => g2 fun _ => g2 fun _ => g2 fun _ => g2 fun _ => g2 fun _ => g2 fun _ => g2 fun _ => g2 fun _ => g1 g4 (g2 fun _ => g1 (g1 (g2 fun _ => g1 (g2 fun _ => g1 g4 g0) g4) g0) (g1 (g1 (g2 fun _ => g4) g0) (g1 (g1 (g2 fun _ => g4) g0) g4)))) (by kernel_rfl)
noncomputable def c80 : Cfg := cfgOf (P := Try.prog) (tab := tab) [e129, e82, e83, e73, e130] false []
def a80_0 (r_ : V × V × V × List V × List V × List V × List V × List V × List V × List V × List V) : List (Ex × St) := [((Ex.exit 1), (⟨[(4, (V.bp 1 0)), (5, (V.bp 2 0))], [(0, some (Blk.box t_spec_l1Cur (l0 r_.1))), (1, some (Blk.box t_impl_Node (l5 r_.2.1))), (2, some (Blk.box t_impl_Node (l6 r_.2.2.1))), (3, some (Blk.row t_impl_Item true r_.2.2.2.1)), (4, some (Blk.row t_bool true r_.2.2.2.2.1)), (5, some (Blk.row t_int' true r_.2.2.2.2.2.1)), (6, some (Blk.row t_int' true r_.2.2.2.2.2.2.1)), (7, some (Blk.row t_impl_Item false r_.2.2.2.2.2.2.2.1)), (8, some (Blk.row t_bool true r_.2.2.2.2.2.2.2.2.1)), (9, some (Blk.row t_int' true r_.2.2.2.2.2.2.2.2.2.1)), (10, some (Blk.row t_int' true r_.2.2.2.2.2.2.2.2.2.2))], 11, [0]⟩ : St))]
def s80_0 : SS := ⟨[(0, (.one (.bp 0 0))), (4, (.one (.bp 1 0))), (5, (.one (.bp 2 0)))], [(.box t_spec_l1Cur [(.inl t_byte), (.int .i64), (.int .i64)]), (.box t_impl_Node q7), (.box t_impl_Node q8), (.row t_impl_Item true), (.row t_bool true), (.row t_int' true), (.row t_int' true), (.row t_impl_Item false), (.row t_bool true), (.row t_int' true), (.row t_int' true)], 11, [0]⟩
noncomputable def l80_0 : LE := le0 5 s80_0 (fun st => spec_l4bent_l5 ((401 - (br st 7).length) + 1) (bc st 0) (bc st 1) (bc st 2) (br st 3) (br st 4) (br st 5) (br st 6) (br st 7) (br st 8) (br st 9) (br st 10)) a80_0
noncomputable def L80 : Loops := ⟨fun k => (look [(5, [0, 4, 5])] k).getD [], fun k => (look [(5, [⟨4, some 3, true⟩, ⟨4, some 8, true⟩, ⟨4, some 9, true⟩, ⟨4, some 10, true⟩])] k).getD [], fun k => (look [(5, [4, 5])] k).getD [], runL [l80_0], [], fun _ => []⟩
theorem t80_0 (k_ : Nat) : ∀ (b0 : V) (b1 : V) (b2 : V) (r3 : List V) (r4 : List V) (r5 : List V) (r6 : List V) (r7 : List V) (r8 : List V) (r9 : List V) (r10 : List V), Agr id (pk0 a80_0) (spec_l4bent_l5 k_ b0 b1 b2 r3 r4 r5 r6 r7 r8 r9 r10) (rounds c80 L80 (lpB Try.f80 0) k_ (s80_0.mk' (stv [] [bx b0, bx b1, bx b2, rb r3, rb r4, rb r5, rb r6, rb r7, rb r8, rb r9, rb r10]))) := by
  induction k_ with
  | zero => exact fun _ _ _ _ _ _ _ _ _ _ _ => g0
  | succ k_ ih => exact fun _ _ _ _ _ _ _ _ _ _ _ => gA (g2 fun _ => g1 (g1 (ih _ _ _ _ _ _ _ _ _ _ _) g0) g4) (by kernel_rfl)
theorem o80 : LoopsOk c80 L80 (bodyOf Try.f80) := GoodAll.ok (l := [l80_0]) (.cons 0 (by kernel_rfl) (gd0 (fun st => (401 - (br st 7).length) + 1) (fun st => t80_0 _ _ _ _ _ _ _ _ _ _ _ _) fun st => by kernel_rfl) (.nil)) rfl
set_option maxRecDepth 100000 in
noncomputable def e80 : En Try.prog tab := enP base [e129, e82, e83, e73, e130] false [] Try.func80 (L := L80) o80 [(.rf t_spec_l1Cur [(.inl t_byte), (.int .i64), (.int .i64)]), (.one (.int .i64))] (fun a => spec_l4bent ((rd a 0).unbox) ((rd a 1).I)) (fun r_ : V × V => ((h9 r_.1), [(V.rf t_spec_l1Cur (l0 r_.2))])) [q10] [[(.inl t_byte)]] [none, none] false (by kernel_rfl) fun _ => gA (g2 fun _ => g2 fun _ => g1 g4 (g2 fun _ => g1 (g2 fun _ => g4) (g1 (g2 fun _ => g4) (g1 (g2 fun _ => g4) (g1 (g2 fun _ => g4) (g1 (g2 fun _ => g4) (g1 (g2 fun _ => g4) (g1 (g1 g4 g0) (g1 (g2 fun _ => g1 g4 g0) (g1 (g2 fun _ => g1 g4 g0) (g2 fun _ => g4))))))))))) (by kernel_rfl)
noncomputable def c131 : Cfg := cfgOf (P := Try.prog) (tab := tab) [e83, e82, e130] false []
def a131_0 (r_ : V × V × V × List V × List V) : List (Ex × St) := [((Ex.exit 1), (⟨[(2, (V.bp 1 0)), (3, (V.bp 2 0))], [(0, some (Blk.box t_spec_l1Cur (l0 r_.1))), (1, some (Blk.box t_impl_Msg (l11 r_.2.1))), (2, some (Blk.box t_impl_Msg (l12 r_.2.2.1))), (3, some (Blk.row t_impl_Item true r_.2.2.2.1)), (4, some (Blk.row t_impl_Item false r_.2.2.2.2))], 5, [0]⟩ : St))]
def s131_0 : SS := ⟨[(0, (.one (.bp 0 0))), (2, (.one (.bp 1 0))), (3, (.one (.bp 2 0))), (4, (.one (.int .i64))), (5, (.one (.int .i64))), (6, (.one (.int .i64)))], [(.box t_spec_l1Cur [(.inl t_byte), (.int .i64), (.int .i64)]), (.box t_impl_Msg q13), (.box t_impl_Msg q14), (.row t_impl_Item true), (.row t_impl_Item false)], 5, [0]⟩
noncomputable def l131_0 : LE := le0 17 s131_0 (fun st => spec_l3draw_l17 ((((sv st 3).I) - ((sv st 5).I)).toNat + 1) ((sv st 3).I) ((sv st 4).I) ((sv st 5).I) (bc st 0) (bc st 1) (bc st 2) (br st 3) (br st 4)) a131_0
noncomputable def L131 : Loops := ⟨fun k => (look [(17, [0, 2, 3, 4, 5, 6])] k).getD [], fun k => (look [(17, [⟨2, some 6, true⟩, ⟨3, some 6, false⟩])] k).getD [], fun k => (look [(17, [2, 3])] k).getD [], runL [l131_0], [], fun _ => []⟩
set_option maxRecDepth 100000 in
theorem t131_0 (k_ : Nat) : ∀ (n4 : Int) (t5 : Int) (i6 : Int) (b0 : V) (b1 : V) (b2 : V) (r3 : List V) (r4 : List V), Agr id (pk0 a131_0) (spec_l3draw_l17 k_ n4 t5 i6 b0 b1 b2 r3 r4) (rounds c131 L131 (lpB Try.f131 0) k_ (s131_0.mk' (stv [.dead, .dead, .dead, vi n4, vi t5, vi i6] [bx b0, bx b1, bx b2, rb r3, rb r4]))) := by
  induction k_ with
  | zero => exact fun _ _ _ _ _ _ _ _ => g0
  | succ k_ ih => exact fun _ _ _ _ _ _ _ _ => gA (g1 (g1 (g2 fun _ => g1 (g2 fun _ => g1 (ih _ _ _ _ _ _ _ _) g0) (g2 fun _ => g1 (ih _ _ _ _ _ _ _ _) g0)) (g2 fun _ => g1 (ih _ _ _ _ _ _ _ _) g0)) g4) (by kernel_rfl)
theorem o131 : LoopsOk c131 L131 (bodyOf Try.f131) := GoodAll.ok (l := [l131_0]) (.cons 0 (by kernel_rfl) (gd0 (fun st => (((sv st 3).I) - ((sv st 5).I)).toNat + 1) (fun st => t131_0 _ _ _ _ _ _ _ _ _) fun st => by kernel_rfl) (.nil)) rfl
set_option maxRecDepth 100000 in
noncomputable def e131 : En Try.prog tab := enP base [e83, e82, e130] false [] Try.func131 (L := L131) o131 [(.rf t_spec_l1Cur [(.inl t_byte), (.int .i64), (.int .i64)])] (fun a => spec_l3draw ((rd a 0).unbox)) (fun r_ : V × V => ((h15 r_.1), [(V.rf t_spec_l1Cur (l0 r_.2))])) [q16] [[(.inl t_byte)]] [none] false (by kernel_rfl) fun _ => gA (g2 fun _ => g2 fun _ => g2 fun _ => g2 fun _ => g1 (g2 fun _ => g1 (g2 fun _ => g1 (g2 fun _ => g2 fun _ => g1 (g2 fun _ => g4) (g2 fun _ => g4)) g4) (g1 (g2 fun _ => g2 fun _ => g2 fun _ => g4) g4)) (g1 (g2 fun _ => g1 (g2 fun _ => g1 (g2 fun _ => g2 fun _ => g1 (g2 fun _ => g4) (g2 fun _ => g4)) g4) (g1 (g2 fun _ => g2 fun _ => g2 fun _ => g4) g4)) (g1 (g2 fun _ => g2 fun _ => g4) (g2 fun _ => g4)))) (by kernel_rfl)
set_option maxRecDepth 100000 in
noncomputable def e81 : En Try.prog tab := enP base [e131, e82, e83, e73, e130] false [] Try.func81 noLo [(.rf t_spec_l1Cur [(.inl t_byte), (.int .i64), (.int .i64)])] (fun a => spec_l3bent ((rd a 0).unbox)) (fun r_ : V × V => ((h15 r_.1), [(V.rf t_spec_l1Cur (l0 r_.2))])) [q16] [[(.inl t_byte)]] [none] false (by kernel_rfl) fun _ => gA (g2 fun _ => g2 fun _ => g1 g4 (g2 fun _ => g1 (g2 fun _ => g4) (g1 (g2 fun _ => g4) (g1 (g2 fun _ => g4) (g1 (g2 fun _ => g4) (g1 (g2 fun _ => g4) (g1 (g2 fun _ => g2 fun _ => g1 g4 g0) (g2 fun _ => g4)))))))) (by kernel_rfl)
noncomputable def c34 : Cfg := cfgOf (P := Try.prog) (tab := tab) [e71, e79, e80, e81, e82, e83, e84] false [84]
def a34_0 (r_ : Int × V × V × V × V × V × List V × List V × List V × List V × List V × List V × List V × List V × List V × List V) : List (Ex × St) := [((Ex.exit 0), (⟨[(2, (V.bp 0 0)), (4, (V.bp 1 0)), (5, (V.bp 2 0)), (6, (vi r_.1)), (7, (V.bp 3 0)), (8, (V.bp 4 0))], [(0, some (Blk.box t_impl_Node (l17 r_.2.1))), (1, some (Blk.box t_impl_Msg (l18 r_.2.2.1))), (2, some (Blk.box t_spec_l1Cur (l0 r_.2.2.2.1))), (3, some (Blk.box t_impl_Node (l19 r_.2.2.2.2.1))), (4, some (Blk.box t_impl_Msg (l20 r_.2.2.2.2.2.1))), (5, some (Blk.row t_impl_Item true r_.2.2.2.2.2.2.1)), (6, some (Blk.row t_bool true r_.2.2.2.2.2.2.2.1)), (7, some (Blk.row t_int' true r_.2.2.2.2.2.2.2.2.1)), (8, some (Blk.row t_int' true r_.2.2.2.2.2.2.2.2.2.1)), (9, some (Blk.row t_impl_Item true r_.2.2.2.2.2.2.2.2.2.2.1)), (10, some (Blk.row t_impl_Item false r_.2.2.2.2.2.2.2.2.2.2.2.1)), (11, some (Blk.row t_bool true r_.2.2.2.2.2.2.2.2.2.2.2.2.1)), (12, some (Blk.row t_int' true r_.2.2.2.2.2.2.2.2.2.2.2.2.2.1)), (13, some (Blk.row t_int' true r_.2.2.2.2.2.2.2.2.2.2.2.2.2.2.1)), (14, some (Blk.row t_impl_Item false r_.2.2.2.2.2.2.2.2.2.2.2.2.2.2.2))], 15, []⟩ : St))]
def s34_0 : SS := ⟨[(2, (.one (.bp 0 0))), (4, (.one (.bp 1 0))), (5, (.one (.bp 2 0))), (6, (.one (.int .i64))), (7, (.one (.bp 3 0))), (8, (.one (.bp 4 0))), (9, (.one (.int .i64)))], [(.box t_impl_Node q21), (.box t_impl_Msg q22), (.box t_spec_l1Cur [(.inl t_byte), (.int .i64), (.int .i64)]), (.box t_impl_Node q23), (.box t_impl_Msg q24), (.row t_impl_Item true), (.row t_bool true), (.row t_int' true), (.row t_int' true), (.row t_impl_Item true), (.row t_impl_Item false), (.row t_bool true), (.row t_int' true), (.row t_int' true), (.row t_impl_Item false)], 15, []⟩
noncomputable def l34_0 : LE := le0 13 s34_0 (fun st => spec_DrawHear_l13 (((((br st 14).length : Nat) : Int) - ((sv st 6).I)).toNat + 1) ((sv st 3).I) ((sv st 6).I) (bc st 0) (bc st 1) (bc st 2) (bc st 3) (bc st 4) (br st 5) (br st 6) (br st 7) (br st 8) (br st 9) (br st 10) (br st 11) (br st 12) (br st 13) (br st 14)) a34_0
def a34_1 (r_ : Int × V × V × V × V × List V × List V × List V × List V × List V × List V × List V × List V × List V × List V) : List (Ex × St) := [((Ex.exit 2), (⟨[(2, (V.bp 0 0)), (4, (V.bp 1 0)), (6, (vi r_.1)), (7, (V.bp 2 0)), (8, (V.bp 3 0))], [(0, some (Blk.box t_impl_Node (l25 r_.2.1))), (1, some (Blk.box t_impl_Msg (l26 r_.2.2.1))), (2, some (Blk.box t_impl_Node (l27 r_.2.2.2.1))), (3, some (Blk.box t_impl_Msg (l28 r_.2.2.2.2.1))), (4, some (Blk.row t_impl_Item true r_.2.2.2.2.2.1)), (5, some (Blk.row t_bool true r_.2.2.2.2.2.2.1)), (6, some (Blk.row t_int' true r_.2.2.2.2.2.2.2.1)), (7, some (Blk.row t_int' true r_.2.2.2.2.2.2.2.2.1)), (8, some (Blk.row t_impl_Item true r_.2.2.2.2.2.2.2.2.2.1)), (9, some (Blk.row t_impl_Item false r_.2.2.2.2.2.2.2.2.2.2.1)), (10, some (Blk.row t_bool true r_.2.2.2.2.2.2.2.2.2.2.2.1)), (11, some (Blk.row t_int' true r_.2.2.2.2.2.2.2.2.2.2.2.2.1)), (12, some (Blk.row t_int' true r_.2.2.2.2.2.2.2.2.2.2.2.2.2.1)), (13, some (Blk.row t_impl_Item false r_.2.2.2.2.2.2.2.2.2.2.2.2.2.2))], 14, []⟩ : St))]
def s34_1 : SS := ⟨[(2, (.one (.bp 0 0))), (4, (.one (.bp 1 0))), (6, (.one (.int .i64))), (7, (.one (.bp 2 0))), (8, (.one (.bp 3 0))), (10, (.one (.int .i64)))], [(.box t_impl_Node q29), (.box t_impl_Msg q30), (.box t_impl_Node q31), (.box t_impl_Msg q32), (.row t_impl_Item true), (.row t_bool true), (.row t_int' true), (.row t_int' true), (.row t_impl_Item true), (.row t_impl_Item false), (.row t_bool true), (.row t_int' true), (.row t_int' true), (.row t_impl_Item false)], 14, []⟩
noncomputable def l34_1 : LE := le0 20 s34_1 (fun st => spec_DrawHear_l20 (((((br st 13).length : Nat) : Int) - ((sv st 5).I)).toNat + 1) ((sv st 2).I) ((sv st 5).I) (bc st 0) (bc st 1) (bc st 2) (bc st 3) (br st 4) (br st 5) (br st 6) (br st 7) (br st 8) (br st 9) (br st 10) (br st 11) (br st 12) (br st 13)) a34_1
noncomputable def L34 : Loops := ⟨fun k => (look [(13, [2, 4, 5, 6, 7, 8, 9]), (20, [2, 4, 6, 7, 8, 10])] k).getD [], fun k => (look [(13, [⟨2, some 3, true⟩, ⟨2, some 8, true⟩, ⟨2, some 9, true⟩, ⟨2, some 10, true⟩, ⟨4, some 6, true⟩]), (20, [⟨2, some 3, true⟩, ⟨2, some 8, true⟩, ⟨2, some 9, true⟩, ⟨2, some 10, true⟩, ⟨4, some 6, true⟩])] k).getD [], fun k => (look [(13, [2, 4, 5, 6, 7, 8]), (20, [2, 4, 6, 7, 8])] k).getD [], runL [l34_0, l34_1], [], fun _ => []⟩
theorem t34_0 (k_ : Nat) : ∀ (k6 : Int) (i9 : Int) (b0 : V) (b1 : V) (b2 : V) (b3 : V) (b4 : V) (r5 : List V) (r6 : List V) (r7 : List V) (r8 : List V) (r9 : List V) (r10 : List V) (r11 : List V) (r12 : List V) (r13 : List V) (r14 : List V), Agr id (pk0 a34_0) (spec_DrawHear_l13 k_ k6 i9 b0 b1 b2 b3 b4 r5 r6 r7 r8 r9 r10 r11 r12 r13 r14) (rounds c34 L34 (lpB Try.f34 0) k_ (s34_0.mk' (stv [.dead, .dead, .dead, vi k6, .dead, .dead, vi i9] [bx b0, bx b1, bx b2, bx b3, bx b4, rb r5, rb r6, rb r7, rb r8, rb r9, rb r10, rb r11, rb r12, rb r13, rb r14]))) := by
  induction k_ with
  | zero => exact fun _ _ _ _ _ _ _ _ _ _ _ _ _ _ _ _ _ => g0
  | succ k_ ih => exact fun _ _ _ _ _ _ _ _ _ _ _ _ _ _ _ _ _ => gA (g1 (g1 (g1 (g1 (ih _ _ _ _ _ _ _ _ _ _ _ _ _ _ _ _ _) g0) (ih _ _ _ _ _ _ _ _ _ _ _ _ _ _ _ _ _)) g0) g4) (by kernel_rfl)
theorem t34_1 (k_ : Nat) : ∀ (k6 : Int) (i10 : Int) (b0 : V) (b1 : V) (b2 : V) (b3 : V) (r4 : List V) (r5 : List V) (r6 : List V) (r7 : List V) (r8 : List V) (r9 : List V) (r10 : List V) (r11 : List V) (r12 : List V) (r13 : List V), Agr id (pk0 a34_1) (spec_DrawHear_l20 k_ k6 i10 b0 b1 b2 b3 r4 r5 r6 r7 r8 r9 r10 r11 r12 r13) (rounds c34 L34 (lpB Try.f34 1) k_ (s34_1.mk' (stv [.dead, .dead, vi k6, .dead, .dead, vi i10] [bx b0, bx b1, bx b2, bx b3, rb r4, rb r5, rb r6, rb r7, rb r8, rb r9, rb r10, rb r11, rb r12, rb r13]))) := by
  induction k_ with
  | zero => exact fun _ _ _ _ _ _ _ _ _ _ _ _ _ _ _ _ => g0
  | succ k_ ih => exact fun _ _ _ _ _ _ _ _ _ _ _ _ _ _ _ _ => gA (g1 (g1 (g1 (g1 (ih _ _ _ _ _ _ _ _ _ _ _ _ _ _ _ _) g0) (ih _ _ _ _ _ _ _ _ _ _ _ _ _ _ _ _)) g0) g4) (by kernel_rfl)
theorem o34 : LoopsOk c34 L34 (bodyOf Try.f34) := GoodAll.ok (l := [l34_0, l34_1]) (.cons 0 (by kernel_rfl) (gd0 (fun st => ((((br st 14).length : Nat) : Int) - ((sv st 6).I)).toNat + 1) (fun st => t34_0 _ _ _ _ _ _ _ _ _ _ _ _ _ _ _ _ _ _) fun st => by kernel_rfl) (.cons 1 (by kernel_rfl) (gd0 (fun st => ((((br st 13).length : Nat) : Int) - ((sv st 5).I)).toNat + 1) (fun st => t34_1 _ _ _ _ _ _ _ _ _ _ _ _ _ _ _ _ _) fun st => by kernel_rfl) (.nil))) rfl
set_option maxRecDepth 100000 in
noncomputable def e34 : En Try.prog tab := enP base [e71, e79, e80, e81, e82, e83, e84] false [84] Try.func34 (L := L34) o34 [(.one (.inl t_byte))] (fun a => spec_DrawHear ((rd a 0).L)) (fun r_ : V × Int × V => ((V.tup [(h9 r_.1), (vi r_.2.1), (h15 r_.2.2)]), [])) [q10, [], q16] [] [some t_byte] false (by kernel_rfl) fun _ => gA (g2 fun _ => g2 fun _ => g2 fun _ => g2 fun _ => g2 fun _ => g1 (g1 (g2 fun _ => g1 (g2 fun _ => g1 (g1 (g1 (g2 fun _ => g1 (g1 (g1 (g2 fun _ => g1 (g2 fun _ => g2 fun _ => g1 g4 g4) g4) g4) g4) g4) (g2 fun _ => g1 (g1 (g1 (g2 fun _ => g1 (g2 fun _ => g2 fun _ => g1 g4 g4) g4) g4) g4) g4)) (g1 (g1 (g1 (g2 fun _ => g1 (g2 fun _ => g2 fun _ => g1 g4 g4) g4) g4) g4) g4)) (g1 (g1 (g1 (g2 fun _ => g1 (g2 fun _ => g2 fun _ => g1 g4 g4) g4) g4) g4) g4)) g0) (g2 fun _ => g1 (g1 (g1 (g2 fun _ => g1 (g1 (g1 (g2 fun _ => g1 (g2 fun _ => g2 fun _ => g1 g4 g4) g4) g4) g4) g4) (g2 fun _ => g1 (g1 (g1 (g2 fun _ => g1 (g2 fun _ => g2 fun _ => g1 g4 g4) g4) g4) g4) g4)) (g1 (g1 (g1 (g2 fun _ => g1 (g2 fun _ => g2 fun _ => g1 g4 g4) g4) g4) g4) g4)) (g1 (g1 (g1 (g2 fun _ => g1 (g2 fun _ => g2 fun _ => g1 g4 g4) g4) g4) g4) g4))) (g2 fun _ => g1 (g1 (g1 (g2 fun _ => g1 (g1 (g1 (g2 fun _ => g1 (g2 fun _ => g2 fun _ => g1 g4 g4) g4) g4) g4) g4) (g2 fun _ => g1 (g1 (g1 (g2 fun _ => g1 (g2 fun _ => g2 fun _ => g1 g4 g4) g4) g4) g4) g4)) (g1 (g1 (g1 (g2 fun _ => g1 (g2 fun _ => g2 fun _ => g1 g4 g4) g4) g4) g4) g4)) (g1 (g1 (g1 (g2 fun _ => g1 (g2 fun _ => g2 fun _ => g1 g4 g4) g4) g4) g4) g4))) (by kernel_rfl)
noncomputable def e57 : En Try.prog tab := enT base [] false [] Try.func57 noLo [(.one (.int .i64)), (.one (.int .i64)), (.one (.int .i64))] (fun a => impl_within ((rd a 0).I) ((rd a 1).I) ((rd a 2).I)) (fun r_ : Bool => ((V.bool r_), [])) [] [] [none, none, none] false (by kernel_rfl) fun _ => gT (g5 g7 g7) (by kernel_rfl)
noncomputable def e93 : En Try.prog tab := enT base [e57] false [] Try.func93 noLo [(.one (.int .i64)), (.one (.int .i64))] (fun a => impl_isServer ((rd a 0).I) ((rd a 1).I)) (fun r_ : Bool => ((V.bool r_), [])) [] [] [none, none] false (by kernel_rfl) fun _ => gT (g5 g7 g7) (by kernel_rfl)
noncomputable def e97 : En Try.prog tab := enT base [e57] false [] Try.func97 noLo [(.one (.int .i64))] (fun a => impl_isTerm ((rd a 0).I)) (fun r_ : Bool => ((V.bool r_), [])) [] [] [none] false (by kernel_rfl) fun _ => gT g7 (by kernel_rfl)
noncomputable def e167 : En Try.prog tab := enT base [] false [] Try.func167 noLo [] (fun a => impl_noOp) (fun r_ : V => ((h33 r_), [])) [q34] [] [] false (by kernel_rfl) fun _ => gT g7 (by kernel_rfl)
noncomputable def e156 : En Try.prog tab := enT base [] false [] Try.func156 noLo [(.one (.inl t_byte)), (.one (.inl t_byte))] (fun a => bytes_Equal ((rd a 0).L) ((rd a 1).L)) (fun r_ : Bool => ((V.bool r_), [])) [] [] [some t_byte, some t_byte] false (by kernel_rfl) fun _ => gT g7 (by kernel_rfl)
noncomputable def e199 : En Try.prog tab := enT base [e156] false [] Try.func199 noLo [(.agg q35), (.agg q35)] (fun a => impl_Op_same (rd a 0) (rd a 1)) (fun r_ : Bool => ((V.bool r_), [])) [] [] [none, none] false (by kernel_rfl) fun _ => gT (g5 (g5 (g5 g7 g7) g7) g7) (by kernel_rfl)
noncomputable def e173 : En Try.prog tab := enT base [e199] false [] Try.func173 noLo [(.agg q36), (.agg q36)] (fun a => impl_Cmd_same (rd a 0) (rd a 1)) (fun r_ : Bool => ((V.bool r_), [])) [] [] [none, none] false (by kernel_rfl) fun _ => gT (g5 (g5 g7 g7) g7) (by kernel_rfl)
noncomputable def c146 : Cfg := cfgOf (P := Try.prog) (tab := tab) [e57] false []
def a146_0 (r_ : Nat × List V × Bool) : List (Ex × St) := [(Ex.ret, (⟨[(0, (V.inl t_byte r_.2.1)), (2, (V.bool r_.2.2))], [], 0, []⟩ : St)), ((Ex.exit 0), (⟨[(0, (V.inl t_byte r_.2.1)), (2, V.dead)], [], 0, []⟩ : St))]
def s146_0 : SS := ⟨[(0, (.one (.inl t_byte))), (5, (.one (.inl t_byte))), (6, (.one (.int .i64))), (7, (.one (.int .i64)))], [], 0, []⟩
noncomputable def l146_0 : LE := le1 2 s146_0 (fun st => impl_KeyOk_l2 ((((sv st 2).I) - ((sv st 3).I)).toNat + 1) ((sv st 0).L) ((sv st 1).L) ((sv st 2).I) ((sv st 3).I)) a146_0
noncomputable def L146 : Loops := ⟨fun k => (look [(2, [0, 5, 6, 7])] k).getD [], fun _ => [], fun k => (look [(2, [0, 2])] k).getD [], runL [l146_0], [], fun _ => []⟩
set_option maxRecDepth 100000 in
theorem t146_0 (k_ : Nat) : ∀ (b0 : List V) (v5 : List V) (v6 : Int) (v7 : Int), Agr id (pk1 a146_0) (impl_KeyOk_l2 k_ b0 v5 v6 v7) (rounds c146 L146 (lpB Try.f146 0) k_ (s146_0.mk' (stv [V.inl 0 b0, V.inl 0 v5, vi v6, vi v7] []))) := by
  induction k_ with
  | zero => exact fun _ _ _ _ => g0
  | succ k_ ih => exact fun _ _ _ _ => gA (g1 (g1 (g1 (g1 g4 (ih _ _ _ _)) (g1 (g1 g4 (ih _ _ _ _)) (ih _ _ _ _))) g0) g4) (by kernel_rfl)
theorem o146 : LoopsOk c146 L146 (bodyOf Try.f146) := GoodAll.ok (l := [l146_0]) (.cons 0 (by kernel_rfl) (gd1 (fun st => (((sv st 2).I) - ((sv st 3).I)).toNat + 1) (fun st => t146_0 _ _ _ _ _) fun st => by kernel_rfl) (.nil)) rfl
noncomputable def e146 : En Try.prog tab := enP base [e57] false [] Try.func146 (L := L146) o146 [(.one (.inl t_byte))] (fun a => impl_KeyOk ((rd a 0).L)) (fun r_ : Bool => ((V.bool r_), [])) [] [] [some t_byte] false (by kernel_rfl) fun _ => gA (g2 fun _ => g1 g4 g4) (by kernel_rfl)
noncomputable def e147 : En Try.prog tab := enT base [] false [] Try.func147 noLo [(.one (.inl t_byte))] (fun a => impl_isValue ((rd a 0).L)) (fun r_ : Bool => ((V.bool r_), [])) [] [] [some t_byte] false (by kernel_rfl) fun _ => gT g7 (by kernel_rfl)
set_option maxRecDepth 100000 in
noncomputable def e174 : En Try.prog tab := enP base [e57, e146, e147] false [] Try.func174 noLo [(.agg q35)] (fun a => impl_OpOk (rd a 0)) (fun r_ : Bool => ((V.bool r_), [])) [] [] [none] false (by kernel_rfl) fun _ => gA (g1 (g1 (g1 g4 g4) g4) (g1 (g1 (g2 fun _ => g1 (g1 g4 g4) g4) g4) (g1 (g1 (g2 fun _ => g1 (g1 g4 g4) g4) g4) (g1 (g1 (g2 fun _ => g1 g4 g4) g4) (g1 (g1 (g1 g4 g4) g4) (g1 (g1 (g1 g4 g4) g4) (g1 (g1 (g2 fun _ => g1 (g1 g4 g4) g4) g4) (g1 (g1 (g2 fun _ => g1 g4 g4) g4) g4)))))))) (by kernel_rfl)
noncomputable def e142 : En Try.prog tab := enP base [e167, e173, e57, e174] false [] Try.func142 noLo [(.agg q36)] (fun a => impl_CmdOk (rd a 0)) (fun r_ : Bool => ((V.bool r_), [])) [] [] [none] false (by kernel_rfl) fun _ => gA (g1 g4 (g1 (g1 (g2 fun _ => g4) g4) g4)) (by kernel_rfl)
noncomputable def e94 : En Try.prog tab := enP base [e97, e142] false [] Try.func94 noLo [(.agg q37)] (fun a => impl_ItemOk (rd a 0)) (fun r_ : Bool => ((V.bool r_), [])) [] [] [none] false (by kernel_rfl) fun _ => gA (g1 (g2 fun _ => g4) g4) (by kernel_rfl)
noncomputable def c143 : Cfg := cfgOf (P := Try.prog) (tab := tab) [] false []
def a143_0 (r_ : Nat × Int) : List (Ex × St) := [(Ex.ret, (⟨[(4, (vi r_.2))], [], 0, []⟩ : St)), ((Ex.exit 0), (⟨[(4, V.dead)], [], 0, []⟩ : St))]
def s143_0 : SS := ⟨[(0, (.one (.inl t_bool))), (1, (.one .bool)), (7, (.one (.int .i64))), (8, (.one (.int .i64)))], [], 0, []⟩
noncomputable def l143_0 : LE := le1 2 s143_0 (fun st => slices_Index_bool_l2 ((((sv st 2).I) - ((sv st 3).I)).toNat + 1) ((sv st 0).L) ((sv st 1).B) ((sv st 2).I) ((sv st 3).I)) a143_0
noncomputable def L143 : Loops := ⟨fun k => (look [(2, [0, 1, 7, 8])] k).getD [], fun _ => [], fun k => (look [(2, [4])] k).getD [], runL [l143_0], [], fun _ => []⟩
theorem t143_0 (k_ : Nat) : ∀ (s0 : List V) (v1 : Bool) (v7 : Int) (v8 : Int), Agr id (pk1 a143_0) (slices_Index_bool_l2 k_ s0 v1 v7 v8) (rounds c143 L143 (lpB Try.f143 0) k_ (s143_0.mk' (stv [V.inl 0 s0, V.bool v1, vi v7, vi v8] []))) := by
  induction k_ with
  | zero => exact fun _ _ _ _ => g0
  | succ k_ ih => exact fun _ _ _ _ => gA (g1 (g1 (g1 g4 (ih _ _ _ _)) g0) g4) (by kernel_rfl)
theorem o143 : LoopsOk c143 L143 (bodyOf Try.f143) := GoodAll.ok (l := [l143_0]) (.cons 0 (by kernel_rfl) (gd1 (fun st => (((sv st 2).I) - ((sv st 3).I)).toNat + 1) (fun st => t143_0 _ _ _ _ _) fun st => by kernel_rfl) (.nil)) rfl
noncomputable def e143 : En Try.prog tab := enP base [] false [] Try.func143 (L := L143) o143 [(.one (.inl t_bool)), (.one .bool)] (fun a => slices_Index_bool ((rd a 0).L) ((rd a 1).B)) (fun r_ : Int => ((vi r_), [])) [] [] [some t_bool, none] false (by kernel_rfl) fun _ => gA (g2 fun _ => g1 g4 g4) (by kernel_rfl)
noncomputable def e95 : En Try.prog tab := enP base [e143] false [] Try.func95 noLo [(.one (.inl t_bool)), (.one .bool)] (fun a => slices_Contains_bool ((rd a 0).L) ((rd a 1).B)) (fun r_ : Bool => ((V.bool r_), [])) [] [] [some t_bool, none] false (by kernel_rfl) fun _ => gA (g2 fun _ => g4) (by kernel_rfl)
noncomputable def c38 : Cfg := cfgOf (P := Try.prog) (tab := tab) [e93, e57, e94, e95] false []
def a38_0 (r_ : Nat × Int × Bool × V) : List (Ex × St) := [(Ex.ret, (⟨[(1, (vi r_.2.1)), (2, (V.bp 0 0)), (4, (V.bool r_.2.2.1))], [(0, some (Blk.box t_impl_Node (l38 r_.2.2.2)))], 1, []⟩ : St)), ((Ex.exit 0), (⟨[(1, (vi r_.2.1)), (2, (V.bp 0 0)), (4, V.dead)], [(0, some (Blk.box t_impl_Node (l38 r_.2.2.2)))], 1, []⟩ : St))]
def s38_0 : SS := ⟨[(1, (.one (.int .i64))), (2, (.one (.bp 0 0))), (5, (.one (.int .i64))), (43, (.one (.inl t_impl_Item))), (44, (.one (.int .i64))), (45, (.one (.int .i64)))], [(.box t_impl_Node q4)], 1, []⟩
noncomputable def l38_0 : LE := le1 5 s38_0 (fun st => impl_NodeOk_l5 ((((sv st 4).I) - ((sv st 5).I)).toNat + 1) ((sv st 0).I) ((sv st 2).I) ((sv st 3).L) ((sv st 4).I) ((sv st 5).I) (bc st 0)) a38_0
def a38_1 (r_ : Nat × Bool) : List (Ex × St) := [(Ex.ret, (⟨[(4, (V.bool r_.2))], [], 0, []⟩ : St)), ((Ex.exit 2), (⟨[(4, V.dead)], [], 0, []⟩ : St))]
def s38_1 : SS := ⟨[(2, (.one (.bp 0 0))), (141, (.one (.int .i64))), (142, (.one (.int .i64)))], [(.box t_impl_Node q4)], 1, []⟩
noncomputable def l38_1 : LE := le1 16 s38_1 (fun st => impl_NodeOk_l16 ((((sv st 1).I) - ((sv st 2).I)).toNat + 1) ((sv st 1).I) ((sv st 2).I) (bc st 0)) a38_1
noncomputable def L38 : Loops := ⟨fun k => (look [(5, [1, 2, 5, 43, 44, 45]), (16, [2, 141, 142])] k).getD [], fun _ => [], fun k => (look [(5, [1, 2, 4]), (16, [4])] k).getD [], runL [l38_0, l38_1], [], fun _ => []⟩
theorem t38_0 (k_ : Nat) : ∀ (servers1 : Int) (term5 : Int) (v43 : List V) (v44 : Int) (v45 : Int) (b0 : V), Agr id (pk1 a38_0) (impl_NodeOk_l5 k_ servers1 term5 v43 v44 v45 b0) (rounds c38 L38 (lpB Try.f38 0) k_ (s38_0.mk' (stv [vi servers1, .dead, vi term5, V.inl 0 v43, vi v44, vi v45] [bx b0]))) := by
  induction k_ with
  | zero => exact fun _ _ _ _ _ _ => g0
  | succ k_ ih => exact fun _ _ _ _ _ _ => gA (g1 (g1 (g2 fun _ => g1 g4 (g1 g4 (ih _ _ _ _ _ _))) g0) g4) (by kernel_rfl)
set_option maxRecDepth 100000 in
theorem t38_1 (k_ : Nat) : ∀ (v141 : Int) (v142 : Int) (b0 : V), Agr id (pk1 a38_1) (impl_NodeOk_l16 k_ v141 v142 b0) (rounds c38 L38 (lpB Try.f38 1) k_ (s38_1.mk' (stv [.dead, vi v141, vi v142] [bx b0]))) := by
  induction k_ with
  | zero => exact fun _ _ _ => g0
  | succ k_ ih => exact fun _ _ _ => gA (g1 (g1 (g1 (g1 g4 (g1 (g1 g4 (g1 (g1 (g1 g4 (g1 (g1 g4 (ih _ _ _)) g0)) g0) (ih _ _ _))) g0)) g0) (g1 (g1 (g1 g4 (g1 (g1 g4 (ih _ _ _)) g0)) g0) (ih _ _ _))) g4) (by kernel_rfl)
theorem o38 : LoopsOk c38 L38 (bodyOf Try.f38) := GoodAll.ok (l := [l38_0, l38_1]) (.cons 0 (by kernel_rfl) (gd1 (fun st => (((sv st 4).I) - ((sv st 5).I)).toNat + 1) (fun st => t38_0 _ _ _ _ _ _ _) fun st => by kernel_rfl) (.cons 1 (by kernel_rfl) (gd1 (fun st => (((sv st 1).I) - ((sv st 2).I)).toNat + 1) (fun st => t38_1 _ _ _ _) fun st => by kernel_rfl) (.nil))) rfl
set_option maxRecDepth 100000 in
noncomputable def e38 : En Try.prog tab := enP base [e93, e57, e94, e95] false [] Try.func38 (L := L38) o38 [(.agg q4), (.one (.int .i64))] (fun a => impl_NodeOk (rd a 0) ((rd a 1).I)) (fun r_ : Bool => ((V.bool r_), [])) [] [] [none, none] false (by kernel_rfl) fun _ => gA (g1 g4 (g1 g4 (g1 g4 (g1 g4 (g1 g4 (g2 fun _ => g1 g4 (g1 g4 (g1 g4 (g1 g4 (g1 g4 (g1 g4 (g1 g4 (g1 (g2 fun _ => g1 g4 (g1 (g1 g4 (g1 g4 (g1 (g1 g4 (g2 fun _ => g1 g4 g4)) (g2 fun _ => g1 g4 g4)))) (g1 (g1 g4 (g2 fun _ => g1 g4 g4)) (g2 fun _ => g1 g4 g4)))) (g1 (g1 g4 (g1 g4 (g1 (g1 g4 (g2 fun _ => g1 g4 g4)) (g2 fun _ => g1 g4 g4)))) (g1 (g1 g4 (g2 fun _ => g1 g4 g4)) (g2 fun _ => g1 g4 g4)))))))))))))))) (by kernel_rfl)
noncomputable def c40 : Cfg := cfgOf (P := Try.prog) (tab := tab) [e57, e97, e94] false []
def a40_0 (r_ : Nat × Bool × V) : List (Ex × St) := [(Ex.ret, (⟨[(1, (V.bp 0 0)), (2, (V.bool r_.2.1))], [(0, some (Blk.box t_impl_Msg (l39 r_.2.2)))], 1, []⟩ : St)), ((Ex.exit 0), (⟨[(1, (V.bp 0 0)), (2, V.dead)], [(0, some (Blk.box t_impl_Msg (l39 r_.2.2)))], 1, []⟩ : St))]
def s40_0 : SS := ⟨[(1, (.one (.bp 0 0))), (3, (.one (.int .i64))), (109, (.one (.inl t_impl_Item))), (110, (.one (.int .i64))), (111, (.one (.int .i64)))], [(.box t_impl_Msg q40)], 1, []⟩
noncomputable def l40_0 : LE := le1 11 s40_0 (fun st => impl_MsgOk_l11 ((((sv st 3).I) - ((sv st 4).I)).toNat + 1) ((sv st 1).I) ((sv st 2).L) ((sv st 3).I) ((sv st 4).I) (bc st 0)) a40_0
noncomputable def L40 : Loops := ⟨fun k => (look [(11, [1, 3, 109, 110, 111])] k).getD [], fun _ => [], fun k => (look [(11, [1, 2])] k).getD [], runL [l40_0], [], fun _ => []⟩
theorem t40_0 (k_ : Nat) : ∀ (term3 : Int) (v109 : List V) (v110 : Int) (v111 : Int) (b0 : V), Agr id (pk1 a40_0) (impl_MsgOk_l11 k_ term3 v109 v110 v111 b0) (rounds c40 L40 (lpB Try.f40 0) k_ (s40_0.mk' (stv [.dead, vi term3, V.inl 0 v109, vi v110, vi v111] [bx b0]))) := by
  induction k_ with
  | zero => exact fun _ _ _ _ _ => g0
  | succ k_ ih => exact fun _ _ _ _ _ => gA (g1 (g1 (g2 fun _ => g1 g4 (g1 g4 (ih _ _ _ _ _))) g0) g4) (by kernel_rfl)
theorem o40 : LoopsOk c40 L40 (bodyOf Try.f40) := GoodAll.ok (l := [l40_0]) (.cons 0 (by kernel_rfl) (gd1 (fun st => (((sv st 3).I) - ((sv st 4).I)).toNat + 1) (fun st => t40_0 _ _ _ _ _ _) fun st => by kernel_rfl) (.nil)) rfl
set_option maxRecDepth 100000 in
noncomputable def e40 : En Try.prog tab := enP base [e57, e97, e94] false [] Try.func40 (L := L40) o40 [(.agg q40)] (fun a => impl_MsgOk (rd a 0)) (fun r_ : Bool => ((V.bool r_), [])) [] [] [none] false (by kernel_rfl) fun _ => gA (g1 g4 (g1 g4 (g1 g4 (g1 g4 (g1 g4 (g1 (g1 g4 (g1 g4 (g1 (g1 g4 (g1 (g1 g4 g4) (g1 (g1 g4 g4) (g1 g4 (g1 g4 (g1 (g1 g4 (g1 (g1 g4 (g2 fun _ => g1 g4 (g1 (g1 g4 g4) g4))) (g2 fun _ => g1 g4 (g1 (g1 g4 g4) g4)))) (g1 (g1 g4 (g2 fun _ => g1 g4 (g1 (g1 g4 g4) g4))) (g2 fun _ => g1 g4 (g1 (g1 g4 g4) g4))))))))) (g1 (g1 g4 g4) (g1 (g1 g4 g4) (g1 g4 (g1 g4 (g1 (g1 g4 (g1 (g1 g4 (g2 fun _ => g1 g4 (g1 (g1 g4 g4) g4))) (g2 fun _ => g1 g4 (g1 (g1 g4 g4) g4)))) (g1 (g1 g4 (g2 fun _ => g1 g4 (g1 (g1 g4 g4) g4))) (g2 fun _ => g1 g4 (g1 (g1 g4 g4) g4))))))))))) (g1 (g1 g4 (g1 (g1 g4 g4) (g1 (g1 g4 g4) (g1 g4 (g1 g4 (g1 (g1 g4 (g1 (g1 g4 (g2 fun _ => g1 g4 (g1 (g1 g4 g4) g4))) (g2 fun _ => g1 g4 (g1 (g1 g4 g4) g4)))) (g1 (g1 g4 (g2 fun _ => g1 g4 (g1 (g1 g4 g4) g4))) (g2 fun _ => g1 g4 (g1 (g1 g4 g4) g4))))))))) (g1 (g1 g4 g4) (g1 (g1 g4 g4) (g1 g4 (g1 g4 (g1 (g1 g4 (g1 (g1 g4 (g2 fun _ => g1 g4 (g1 (g1 g4 g4) g4))) (g2 fun _ => g1 g4 (g1 (g1 g4 g4) g4)))) (g1 (g1 g4 (g2 fun _ => g1 g4 (g1 (g1 g4 g4) g4))) (g2 fun _ => g1 g4 (g1 (g1 g4 g4) g4))))))))))))))) (by kernel_rfl)
noncomputable def e117 : En Try.prog tab := enN base [] false [] Try.func117 noLo t_byte slices_Clone_byte (fun r_ : List V => ((V.rr t_byte true r_), [])) [[(.rr t_byte true)]] [] [some t_byte] false (by kernel_rfl) (fun _ => gA (g1 g4 g0) (by kernel_rfl)) (by
  have h : evalW (wkF [[(.rr t_byte true)]] []) (cfgOf (P := Try.prog) (tab := tab) [] false []) noL Try.f117 [V.nl t_byte] = (some (wkF [[(.rr t_byte true)]] [] ((V.nil t_byte), []))) := by kernel_rfl
  rw [h, slices_Clone_byte]
  clear h
  intro r h; revert h; simp only [List.length_nil]; intro h; first | (cases h; kernel_rfl) | (revert h; simp [roomy]; intro h; subst h; kernel_rfl))
noncomputable def e196 : En Try.prog tab := enP base [e117] false [] Try.func196 noLo [(.agg q35)] (fun a => impl_Op_own (rd a 0)) (fun r_ : V => ((h41 r_), [])) [q42] [] [none] false (by kernel_rfl) fun _ => gA (g2 fun _ => g2 fun _ => g4) (by kernel_rfl)
noncomputable def e164 : En Try.prog tab := enP base [e196] false [] Try.func164 noLo [(.agg q36)] (fun a => impl_Cmd_own (rd a 0)) (fun r_ : V => ((h33 r_), [])) [q34] [] [none] false (by kernel_rfl) fun _ => gA (g2 fun _ => g4) (by kernel_rfl)
noncomputable def c133 : Cfg := cfgOf (P := Try.prog) (tab := tab) [e164] false []
def a133_0 (r_ : List V) : List (Ex × St) := [((Ex.exit 0), (⟨[(3, (vs 0 t_impl_Item))], [(0, some (Blk.row t_impl_Item true r_))], 1, []⟩ : St))]
def s133_0 : SS := ⟨[(3, (.one (.sl 0 t_impl_Item))), (6, (.one (.inl t_impl_Item))), (7, (.one (.int .i64))), (8, (.one (.int .i64)))], [(.row t_impl_Item true)], 1, []⟩
noncomputable def l133_0 : LE := le0 3 s133_0 (fun st => impl_ownItems_l3 ((((sv st 2).I) - ((sv st 3).I)).toNat + 1) ((sv st 1).L) ((sv st 2).I) ((sv st 3).I) (br st 0)) a133_0
noncomputable def L133 : Loops := ⟨fun k => (look [(3, [3, 6, 7, 8])] k).getD [], fun k => (look [(3, [⟨3, none, true⟩])] k).getD [], fun k => (look [(3, [3])] k).getD [], runL [l133_0], [], fun _ => []⟩
theorem t133_0 (k_ : Nat) : ∀ (v6 : List V) (v7 : Int) (v8 : Int) (r0 : List V), Agr id (pk0 a133_0) (impl_ownItems_l3 k_ v6 v7 v8 r0) (rounds c133 L133 (lpB Try.f133 0) k_ (s133_0.mk' (stv [.dead, V.inl 0 v6, vi v7, vi v8] [rb r0]))) := by
  induction k_ with
  | zero => exact fun _ _ _ _ => g0
  | succ k_ ih => exact fun _ _ _ _ => gA (g1 (g1 (g2 fun _ => g1 (ih _ _ _ _) g0) g0) g4) (by kernel_rfl)
theorem o133 : LoopsOk c133 L133 (bodyOf Try.f133) := GoodAll.ok (l := [l133_0]) (.cons 0 (by kernel_rfl) (gd0 (fun st => (((sv st 2).I) - ((sv st 3).I)).toNat + 1) (fun st => t133_0 _ _ _ _ _) fun st => by kernel_rfl) (.nil)) rfl
noncomputable def e133 : En Try.prog tab := enP base [e164] false [] Try.func133 (L := L133) o133 [(.one (.inl t_impl_Item))] (fun a => impl_ownItems ((rd a 0).L)) (fun r_ : List V => ((V.rr t_impl_Item true r_), [])) [[(.rr t_impl_Item true)]] [] [some t_impl_Item] false (by kernel_rfl) fun _ => gA (g2 fun _ => g4) (by kernel_rfl)
noncomputable def e134 : En Try.prog tab := enN base [] false [] Try.func134 noLo t_bool slices_Clone_bool (fun r_ : List V => ((V.rr t_bool true r_), [])) [[(.rr t_bool true)]] [] [some t_bool] false (by kernel_rfl) (fun _ => gA (g1 g4 g0) (by kernel_rfl)) (by
  have h : evalW (wkF [[(.rr t_bool true)]] []) (cfgOf (P := Try.prog) (tab := tab) [] false []) noL Try.f134 [V.nl t_bool] = (some (wkF [[(.rr t_bool true)]] [] ((V.nil t_bool), []))) := by kernel_rfl
  rw [h, slices_Clone_bool]
  clear h
  intro r h; revert h; simp only [List.length_nil]; intro h; first | (cases h; kernel_rfl) | (revert h; simp [roomy]; intro h; subst h; kernel_rfl))
noncomputable def e135 : En Try.prog tab := enN base [] false [] Try.func135 noLo t_int' slices_Clone_int (fun r_ : List V => ((V.rr t_int' true r_), [])) [[(.rr t_int' true)]] [] [some t_int'] false (by kernel_rfl) (fun _ => gA (g1 g4 g0) (by kernel_rfl)) (by
  have h : evalW (wkF [[(.rr t_int' true)]] []) (cfgOf (P := Try.prog) (tab := tab) [] false []) noL Try.f135 [V.nl t_int'] = (some (wkF [[(.rr t_int' true)]] [] ((V.nil t_int'), []))) := by kernel_rfl
  rw [h, slices_Clone_int]
  clear h
  intro r h; revert h; simp only [List.length_nil]; intro h; first | (cases h; kernel_rfl) | (revert h; simp [roomy]; intro h; subst h; kernel_rfl))
noncomputable def e85 : En Try.prog tab := enP base [e133, e134, e135] false [] Try.func85 noLo [(.agg q4)] (fun a => impl_Node_own (rd a 0)) (fun r_ : V => ((h1 r_), [])) [q2] [] [none] false (by kernel_rfl) fun _ => gA (g2 fun _ => g2 fun _ => g2 fun _ => g2 fun _ => g4) (by kernel_rfl)
noncomputable def e136 : En Try.prog tab := enT base [] false [] Try.func136 noLo [(.rf t_impl_server q43), (.one (.int .i64))] (fun a => impl_server_follow ((rd a 0).unbox) ((rd a 1).I)) (fun r_ : V => ((V.tup []), [(V.rf t_impl_server (l44 r_))])) [] [q45] [none, none] false (by kernel_rfl) fun _ => gT (g5 g7 g7) (by kernel_rfl)
noncomputable def e170 : En Try.prog tab := enP base [e57] false [] Try.func170 noLo [(.agg q4), (.one (.int .i64))] (fun a => impl_Node_termAt (rd a 0) ((rd a 1).I)) (fun r_ : Int => ((vi r_), [])) [] [] [none, none] false (by kernel_rfl) fun _ => gA (g1 g4 (g1 g4 g0)) (by kernel_rfl)
noncomputable def e165 : En Try.prog tab := enP base [e170] false [] Try.func165 noLo [(.agg q4)] (fun a => impl_Node_lastTerm (rd a 0)) (fun r_ : Int => ((vi r_), [])) [] [] [none] false (by kernel_rfl) fun _ => gA (g2 fun _ => g4) (by kernel_rfl)
noncomputable def e137 : En Try.prog tab := enP base [e165] false [] Try.func137 noLo [(.agg q4), (.one (.int .i64)), (.one (.int .i64))] (fun a => impl_Node_newer (rd a 0) ((rd a 1).I) ((rd a 2).I)) (fun r_ : Bool => ((V.bool r_), [])) [] [] [none, none, none] false (by kernel_rfl) fun _ => gA (g2 fun _ => g1 g4 (g2 fun _ => g1 g4 g4)) (by kernel_rfl)
noncomputable def e166 : En Try.prog tab := enT base [] false [] Try.func166 noLo [(.agg q4), (.one (.int .i64))] (fun a => impl_Node_most (rd a 0) ((rd a 1).I)) (fun r_ : Bool => ((V.bool r_), [])) [] [] [none, none] false (by kernel_rfl) fun _ => gT g7 (by kernel_rfl)
noncomputable def c168 : Cfg := cfgOf (P := Try.prog) (tab := tab) [e170, e166] false []
def a168_0 (r_ : Int × Int × V × List V × List V × List V × List V × List V) : List (Ex × St) := [((Ex.exit 2), (⟨[(0, (V.bp 0 0)), (2, (vi r_.1)), (3, (vi r_.2.1))], [(0, some (Blk.box t_impl_server (l46 r_.2.2.1))), (1, some (Blk.row t_impl_Item true r_.2.2.2.1)), (2, some (Blk.row t_bool true r_.2.2.2.2.1)), (3, some (Blk.row t_int' true r_.2.2.2.2.2.1)), (4, some (Blk.row t_int' true r_.2.2.2.2.2.2.1)), (5, some (Blk.row t_impl_Msg true r_.2.2.2.2.2.2.2))], 6, [0]⟩ : St))]
def s168_0 : SS := ⟨[(0, (.one (.bp 0 0))), (2, (.one (.int .i64))), (3, (.one (.int .i64))), (60, (.one (.sl 1 t_int'))), (61, (.one (.int .i64))), (62, (.one (.int .i64)))], [(.box t_impl_server q47), (.row t_int' true), (.row t_impl_Item true), (.row t_bool true), (.row t_int' true), (.row t_impl_Msg true)], 6, [0]⟩
noncomputable def l168_0 : LE := le0 6 s168_0 (fun st => impl_server_advance_l6 ((((sv st 4).I) - ((sv st 5).I)).toNat + 1) ((sv st 1).I) ((sv st 2).I) ((sv st 4).I) ((sv st 5).I) (bc st 0) (br st 1) (br st 2) (br st 3) (br st 4) (br st 5)) a168_0
def a168_1 (r_ : Nat × V × List V × List V × List V × List V × List V) : List (Ex × St) := [(Ex.ret, (⟨[], [(0, some (Blk.box t_impl_server (l46 r_.2.1))), (1, some (Blk.row t_impl_Item true r_.2.2.1)), (2, some (Blk.row t_bool true r_.2.2.2.1)), (3, some (Blk.row t_int' true r_.2.2.2.2.1)), (4, some (Blk.row t_int' true r_.2.2.2.2.2.1)), (5, some (Blk.row t_impl_Msg true r_.2.2.2.2.2.2))], 6, [0]⟩ : St)), ((Ex.exit 0), (⟨[], [(0, some (Blk.box t_impl_server (l46 r_.2.1))), (1, some (Blk.row t_impl_Item true r_.2.2.1)), (2, some (Blk.row t_bool true r_.2.2.2.1)), (3, some (Blk.row t_int' true r_.2.2.2.2.1)), (4, some (Blk.row t_int' true r_.2.2.2.2.2.1)), (5, some (Blk.row t_impl_Msg true r_.2.2.2.2.2.2))], 6, [0]⟩ : St))]
def s168_1 : SS := ⟨[(0, (.one (.bp 0 0))), (2, (.one (.int .i64)))], [(.box t_impl_server q48), (.row t_impl_Item true), (.row t_bool true), (.row t_int' true), (.row t_int' true), (.row t_impl_Msg true)], 6, [0]⟩
noncomputable def l168_1 : LE := le1 2 s168_1 (fun st => impl_server_advance_l2 ((((sv st 1).I) - (gi (bc st 0) 4)).toNat + 1) ((sv st 1).I) (bc st 0) (br st 1) (br st 2) (br st 3) (br st 4) (br st 5)) a168_1
noncomputable def L168 : Loops := ⟨fun k => (look [(2, [0, 2]), (6, [0, 2, 3, 60, 61, 62])] k).getD [], fun _ => [], fun k => (look [(2, []), (6, [0, 2, 3])] k).getD [], runL [l168_0, l168_1], [], fun _ => []⟩
theorem t168_0 (k_ : Nat) : ∀ (place2 : Int) (count3 : Int) (v61 : Int) (v62 : Int) (b0 : V) (r1 : List V) (r2 : List V) (r3 : List V) (r4 : List V) (r5 : List V), Agr id (pk0 a168_0) (impl_server_advance_l6 k_ place2 count3 v61 v62 b0 r1 r2 r3 r4 r5) (rounds c168 L168 (lpB Try.f168 1) k_ (s168_0.mk' (stv [.dead, vi place2, vi count3, .dead, vi v61, vi v62] [bx b0, rb r1, rb r2, rb r3, rb r4, rb r5]))) := by
  induction k_ with
  | zero => exact fun _ _ _ _ _ _ _ _ _ _ => g0
  | succ k_ ih => exact fun _ _ _ _ _ _ _ _ _ _ => gA (g1 (g1 (g1 (ih _ _ _ _ _ _ _ _ _ _) (ih _ _ _ _ _ _ _ _ _ _)) g0) g4) (by kernel_rfl)
theorem t168_1 (k_ : Nat) : ∀ (place2 : Int) (b0 : V) (r1 : List V) (r2 : List V) (r3 : List V) (r4 : List V) (r5 : List V), Agr id (pk1 a168_1) (impl_server_advance_l2 k_ place2 b0 r1 r2 r3 r4 r5) (rounds c168 L168 (lpB Try.f168 0) k_ (s168_1.mk' (stv [.dead, vi place2] [bx b0, rb r1, rb r2, rb r3, rb r4, rb r5]))) := by
  induction k_ with
  | zero => exact fun _ _ _ _ _ _ _ => g0
  | succ k_ ih => exact fun _ _ _ _ _ _ _ => gA (g1 (g2 fun _ => g2 fun _ => g1 (g1 g4 (ih _ _ _ _ _ _ _)) (ih _ _ _ _ _ _ _)) g4) (by kernel_rfl)
theorem o168 : LoopsOk c168 L168 (bodyOf Try.f168) := GoodAll.ok (l := [l168_0, l168_1]) (.cons 1 (by kernel_rfl) (gd0 (fun st => (((sv st 4).I) - ((sv st 5).I)).toNat + 1) (fun st => t168_0 _ _ _ _ _ _ _ _ _ _ _) fun st => by kernel_rfl) (.cons 0 (by kernel_rfl) (gd1 (fun st => (((sv st 1).I) - (gi (bc st 0) 4)).toNat + 1) (fun st => t168_1 _ _ _ _ _ _ _ _) fun st => by kernel_rfl) (.nil))) rfl
noncomputable def e168 : En Try.prog tab := enP base [e170, e166] false [] Try.func168 (L := L168) o168 [(.rf t_impl_server q43)] (fun a => impl_server_advance ((rd a 0).unbox)) (fun r_ : V => ((V.tup []), [(V.rf t_impl_server (l44 r_))])) [] [q45] [none] false (by kernel_rfl) fun _ => gA (g1 (g1 (g2 fun _ => g1 g4 g4) g0) g0) (by kernel_rfl)
noncomputable def c197 : Cfg := cfgOf (P := Try.prog) (tab := tab) [] false []
def a197_0 (r_ : List V) : List (Ex × St) := [((Ex.exit 0), (⟨[(3, (vs 0 t_int'))], [(0, some (Blk.row t_int' true r_))], 1, []⟩ : St))]
def s197_0 : SS := ⟨[(1, (.one (.bp 0 0))), (3, (.one (.sl 1 t_int'))), (7, (.one (.int .i64))), (8, (.one (.int .i64)))], [(.box t_impl_Node q4), (.row t_int' true)], 2, []⟩
noncomputable def l197_0 : LE := le0 3 s197_0 (fun st => impl_Node_others_l3 ((((sv st 2).I) - ((sv st 3).I)).toNat + 1) ((sv st 2).I) ((sv st 3).I) (bc st 0) (br st 1)) a197_0
noncomputable def L197 : Loops := ⟨fun k => (look [(3, [1, 3, 7, 8])] k).getD [], fun k => (look [(3, [⟨3, none, true⟩])] k).getD [], fun k => (look [(3, [3])] k).getD [], runL [l197_0], [], fun _ => []⟩
theorem t197_0 (k_ : Nat) : ∀ (v7 : Int) (v8 : Int) (b0 : V) (r1 : List V), Agr id (pk0 a197_0) (impl_Node_others_l3 k_ v7 v8 b0 r1) (rounds c197 L197 (lpB Try.f197 0) k_ (s197_0.mk' (stv [.dead, .dead, vi v7, vi v8] [bx b0, rb r1]))) := by
  induction k_ with
  | zero => exact fun _ _ _ _ => g0
  | succ k_ ih => exact fun _ _ _ _ => gA (g1 (g1 (g1 (ih _ _ _ _) g0) (ih _ _ _ _)) g4) (by kernel_rfl)
theorem o197 : LoopsOk c197 L197 (bodyOf Try.f197) := GoodAll.ok (l := [l197_0]) (.cons 0 (by kernel_rfl) (gd0 (fun st => (((sv st 2).I) - ((sv st 3).I)).toNat + 1) (fun st => t197_0 _ _ _ _ _) fun st => by kernel_rfl) (.nil)) rfl
noncomputable def e197 : En Try.prog tab := enP base [] false [] Try.func197 (L := L197) o197 [(.agg q4)] (fun a => impl_Node_others (rd a 0)) (fun r_ : List V => ((V.rr t_int' true r_), [])) [[(.rr t_int' true)]] [] [none] false (by kernel_rfl) fun _ => gA (g2 fun _ => g4) (by kernel_rfl)
noncomputable def e198 : En Try.prog tab := enP base [e170, e133] false [] Try.func198 noLo [(.agg q4), (.one (.int .i64))] (fun a => impl_Node_entries (rd a 0) ((rd a 1).I)) (fun r_ : V => ((h49 r_), [])) [q50] [] [none, none] false (by kernel_rfl) fun _ => gA (g1 (g1 (g1 (g2 fun _ => g2 fun _ => g4) g0) g0) g0) (by kernel_rfl)
noncomputable def e171 : En Try.prog tab := enP base [e198] false [] Try.func171 noLo [(.rf t_impl_server q43), (.one (.int .i64))] (fun a => impl_server_send ((rd a 0).unbox) ((rd a 1).I)) (fun r_ : V => ((V.tup []), [(V.rf t_impl_server (l44 r_))])) [] [q45] [none, none] false (by kernel_rfl) fun _ => gA (g2 fun _ => g1 g4 g0) (by kernel_rfl)
noncomputable def c169 : Cfg := cfgOf (P := Try.prog) (tab := tab) [e197, e171] false []
def a169_0 (r_ : V × List V × List V × List V × List V × List V) : List (Ex × St) := [((Ex.exit 0), (⟨[], [(0, some (Blk.box t_impl_server (l46 r_.1))), (1, some (Blk.row t_impl_Item true r_.2.1)), (2, some (Blk.row t_bool true r_.2.2.1)), (3, some (Blk.row t_int' true r_.2.2.2.1)), (4, some (Blk.row t_int' true r_.2.2.2.2.1)), (5, some (Blk.row t_impl_Msg true r_.2.2.2.2.2))], 6, [0]⟩ : St))]
def s169_0 : SS := ⟨[(0, (.one (.bp 0 0))), (8, (.one (.sl 1 t_int'))), (9, (.one (.int .i64))), (10, (.one (.int .i64)))], [(.box t_impl_server q51), (.row t_int' true), (.row t_impl_Item true), (.row t_bool true), (.row t_int' true), (.row t_int' true), (.row t_impl_Msg true)], 7, [0]⟩
noncomputable def l169_0 : LE := le0 1 s169_0 (fun st => impl_server_sendAll_l1 ((((sv st 2).I) - ((sv st 3).I)).toNat + 1) ((sv st 2).I) ((sv st 3).I) (bc st 0) (br st 1) (br st 2) (br st 3) (br st 4) (br st 5) (br st 6)) a169_0
noncomputable def L169 : Loops := ⟨fun k => (look [(1, [0, 8, 9, 10])] k).getD [], fun _ => [], fun k => (look [(1, [])] k).getD [], runL [l169_0], [], fun _ => []⟩
theorem t169_0 (k_ : Nat) : ∀ (v9 : Int) (v10 : Int) (b0 : V) (r1 : List V) (r2 : List V) (r3 : List V) (r4 : List V) (r5 : List V) (r6 : List V), Agr id (pk0 a169_0) (impl_server_sendAll_l1 k_ v9 v10 b0 r1 r2 r3 r4 r5 r6) (rounds c169 L169 (lpB Try.f169 0) k_ (s169_0.mk' (stv [.dead, .dead, vi v9, vi v10] [bx b0, rb r1, rb r2, rb r3, rb r4, rb r5, rb r6]))) := by
  induction k_ with
  | zero => exact fun _ _ _ _ _ _ _ _ _ => g0
  | succ k_ ih => exact fun _ _ _ _ _ _ _ _ _ => gA (g1 (g1 (g2 fun _ => ih _ _ _ _ _ _ _ _ _) g0) g4) (by kernel_rfl)
theorem o169 : LoopsOk c169 L169 (bodyOf Try.f169) := GoodAll.ok (l := [l169_0]) (.cons 0 (by kernel_rfl) (gd0 (fun st => (((sv st 2).I) - ((sv st 3).I)).toNat + 1) (fun st => t169_0 _ _ _ _ _ _ _ _ _ _) fun st => by kernel_rfl) (.nil)) rfl
noncomputable def e169 : En Try.prog tab := enP base [e197, e171] false [] Try.func169 (L := L169) o169 [(.rf t_impl_server q43)] (fun a => impl_server_sendAll ((rd a 0).unbox)) (fun r_ : V => ((V.tup []), [(V.rf t_impl_server (l44 r_))])) [] [q45] [none] false (by kernel_rfl) fun _ => gA (g2 fun _ => g2 fun _ => g4) (by kernel_rfl)
noncomputable def c138 : Cfg := cfgOf (P := Try.prog) (tab := tab) [e166, e167, e168, e169] false []
def a138_0 (r_ : Int × V × List V × List V × List V × List V × List V) : List (Ex × St) := [((Ex.exit 0), (⟨[(0, (V.bp 0 0)), (2, (vi r_.1))], [(0, some (Blk.box t_impl_server (l46 r_.2.1))), (1, some (Blk.row t_impl_Item true r_.2.2.1)), (2, some (Blk.row t_bool true r_.2.2.2.1)), (3, some (Blk.row t_int' true r_.2.2.2.2.1)), (4, some (Blk.row t_int' true r_.2.2.2.2.2.1)), (5, some (Blk.row t_impl_Msg true r_.2.2.2.2.2.2))], 6, [0]⟩ : St))]
def s138_0 : SS := ⟨[(0, (.one (.bp 0 0))), (2, (.one (.int .i64))), (10, (.one (.sl 1 t_bool))), (11, (.one (.int .i64))), (12, (.one (.int .i64)))], [(.box t_impl_server q52), (.row t_bool true), (.row t_impl_Item true), (.row t_int' true), (.row t_int' true), (.row t_impl_Msg true)], 6, [0]⟩
noncomputable def l138_0 : LE := le0 2 s138_0 (fun st => impl_server_lead_l2 ((((sv st 3).I) - ((sv st 4).I)).toNat + 1) ((sv st 1).I) ((sv st 3).I) ((sv st 4).I) (bc st 0) (br st 1) (br st 2) (br st 3) (br st 4) (br st 5)) a138_0
def a138_1 (r_ : V × List V × List V × List V × List V × List V) : List (Ex × St) := [((Ex.exit 2), (⟨[(0, (V.bp 0 0))], [(0, some (Blk.box t_impl_server (l46 r_.1))), (1, some (Blk.row t_impl_Item true r_.2.1)), (2, some (Blk.row t_bool true r_.2.2.1)), (3, some (Blk.row t_int' true r_.2.2.2.1)), (4, some (Blk.row t_int' true r_.2.2.2.2.1)), (5, some (Blk.row t_impl_Msg true r_.2.2.2.2.2))], 6, [0]⟩ : St))]
def s138_1 : SS := ⟨[(0, (.one (.bp 0 0))), (49, (.one (.int .i64))), (50, (.one (.int .i64)))], [(.box t_impl_server q48), (.row t_impl_Item true), (.row t_bool true), (.row t_int' true), (.row t_int' true), (.row t_impl_Msg true)], 6, [0]⟩
noncomputable def l138_1 : LE := le0 10 s138_1 (fun st => impl_server_lead_l10 ((((sv st 1).I) - ((sv st 2).I)).toNat + 1) ((sv st 1).I) ((sv st 2).I) (bc st 0) (br st 1) (br st 2) (br st 3) (br st 4) (br st 5)) a138_1
noncomputable def L138 : Loops := ⟨fun k => (look [(2, [0, 2, 10, 11, 12]), (10, [0, 49, 50])] k).getD [], fun _ => [], fun k => (look [(2, [0, 2]), (10, [0])] k).getD [], runL [l138_0, l138_1], [], fun _ => []⟩
theorem t138_0 (k_ : Nat) : ∀ (count2 : Int) (v11 : Int) (v12 : Int) (b0 : V) (r1 : List V) (r2 : List V) (r3 : List V) (r4 : List V) (r5 : List V), Agr id (pk0 a138_0) (impl_server_lead_l2 k_ count2 v11 v12 b0 r1 r2 r3 r4 r5) (rounds c138 L138 (lpB Try.f138 0) k_ (s138_0.mk' (stv [.dead, vi count2, .dead, vi v11, vi v12] [bx b0, rb r1, rb r2, rb r3, rb r4, rb r5]))) := by
  induction k_ with
  | zero => exact fun _ _ _ _ _ _ _ _ _ => g0
  | succ k_ ih => exact fun _ _ _ _ _ _ _ _ _ => gA (g1 (g1 (g1 (ih _ _ _ _ _ _ _ _ _) (ih _ _ _ _ _ _ _ _ _)) g0) g4) (by kernel_rfl)
theorem t138_1 (k_ : Nat) : ∀ (v49 : Int) (v50 : Int) (b0 : V) (r1 : List V) (r2 : List V) (r3 : List V) (r4 : List V) (r5 : List V), Agr id (pk0 a138_1) (impl_server_lead_l10 k_ v49 v50 b0 r1 r2 r3 r4 r5) (rounds c138 L138 (lpB Try.f138 1) k_ (s138_1.mk' (stv [.dead, vi v49, vi v50] [bx b0, rb r1, rb r2, rb r3, rb r4, rb r5]))) := by
  induction k_ with
  | zero => exact fun _ _ _ _ _ _ _ _ => g0
  | succ k_ ih => exact fun _ _ _ _ _ _ _ _ => gA (g1 (g1 (g1 (ih _ _ _ _ _ _ _ _) g0) g0) g4) (by kernel_rfl)
theorem o138 : LoopsOk c138 L138 (bodyOf Try.f138) := GoodAll.ok (l := [l138_0, l138_1]) (.cons 0 (by kernel_rfl) (gd0 (fun st => (((sv st 3).I) - ((sv st 4).I)).toNat + 1) (fun st => t138_0 _ _ _ _ _ _ _ _ _ _) fun st => by kernel_rfl) (.cons 1 (by kernel_rfl) (gd0 (fun st => (((sv st 1).I) - ((sv st 2).I)).toNat + 1) (fun st => t138_1 _ _ _ _ _ _ _ _ _) fun st => by kernel_rfl) (.nil))) rfl
set_option maxRecDepth 100000 in
noncomputable def e138 : En Try.prog tab := enP base [e166, e167, e168, e169] false [] Try.func138 (L := L138) o138 [(.rf t_impl_server q43)] (fun a => impl_server_lead ((rd a 0).unbox)) (fun r_ : V => ((V.tup []), [(V.rf t_impl_server (l44 r_))])) [] [q45] [none] false (by kernel_rfl) fun _ => gA (g2 fun _ => g1 g4 (g2 fun _ => g1 (g1 (g2 fun _ => g2 fun _ => g4) g0) (g2 fun _ => g2 fun _ => g4))) (by kernel_rfl)
end Go.Eng.R
open Go Go.Eng Go.Proofs
namespace Go.Eng.R
noncomputable def c139 : Cfg := cfgOf (P := Try.prog) (tab := tab) [e136, e170, e164] false []
def a139_0 (r_ : Nat × Int × Bool × V × V × List V × List V × List V × List V × List V) : List (Ex × St) := [(Ex.ret, (⟨[(0, (V.bp 0 0)), (3, (V.bp 1 0)), (4, (vi r_.2.1)), (5, (V.bool r_.2.2.1))], [(0, some (Blk.box t_impl_server (l53 r_.2.2.2.1))), (1, some (Blk.box t_impl_Msg (l39 r_.2.2.2.2.1))), (2, some (Blk.row t_impl_Item true r_.2.2.2.2.2.1)), (3, some (Blk.row t_bool true r_.2.2.2.2.2.2.1)), (4, some (Blk.row t_int' true r_.2.2.2.2.2.2.2.1)), (5, some (Blk.row t_int' true r_.2.2.2.2.2.2.2.2.1)), (6, some (Blk.row t_impl_Msg true r_.2.2.2.2.2.2.2.2.2))], 7, [0]⟩ : St)), ((Ex.exit 0), (⟨[(0, (V.bp 0 0)), (3, (V.bp 1 0)), (4, V.dead), (5, V.dead)], [(0, some (Blk.box t_impl_server (l53 r_.2.2.2.1))), (1, some (Blk.box t_impl_Msg (l39 r_.2.2.2.2.1))), (2, some (Blk.row t_impl_Item true r_.2.2.2.2.2.1)), (3, some (Blk.row t_bool true r_.2.2.2.2.2.2.1)), (4, some (Blk.row t_int' true r_.2.2.2.2.2.2.2.1)), (5, some (Blk.row t_int' true r_.2.2.2.2.2.2.2.2.1)), (6, some (Blk.row t_impl_Msg true r_.2.2.2.2.2.2.2.2.2))], 7, [0]⟩ : St))]
def s139_0 : SS := ⟨[(0, (.one (.bp 0 0))), (3, (.one (.bp 1 0))), (71, (.one (.inl t_impl_Item))), (72, (.one (.int .i64))), (73, (.one (.int .i64)))], [(.box t_impl_server q51), (.box t_impl_Msg q40), (.row t_impl_Item true), (.row t_bool true), (.row t_int' true), (.row t_int' true), (.row t_impl_Msg true)], 7, [0]⟩
noncomputable def l139_0 : LE := le1 10 s139_0 (fun st => impl_server_add_l10 ((((sv st 3).I) - ((sv st 4).I)).toNat + 1) ((sv st 2).L) ((sv st 3).I) ((sv st 4).I) (bc st 0) (bc st 1) (br st 2) (br st 3) (br st 4) (br st 5) (br st 6)) a139_0
def a139_1 (r_ : Int × V × V × List V × List V × List V × List V × List V) : List (Ex × St) := [((Ex.exit 2), (⟨[(0, (V.bp 0 0)), (3, (V.bp 1 0)), (9, (vi r_.1))], [(0, some (Blk.box t_impl_server (l53 r_.2.1))), (1, some (Blk.box t_impl_Msg (l39 r_.2.2.1))), (2, some (Blk.row t_impl_Item true r_.2.2.2.1)), (3, some (Blk.row t_bool true r_.2.2.2.2.1)), (4, some (Blk.row t_int' true r_.2.2.2.2.2.1)), (5, some (Blk.row t_int' true r_.2.2.2.2.2.2.1)), (6, some (Blk.row t_impl_Msg true r_.2.2.2.2.2.2.2))], 7, [0]⟩ : St))]
def s139_1 : SS := ⟨[(0, (.one (.bp 0 0))), (3, (.one (.bp 1 0))), (9, (.one (.int .i64))), (110, (.one (.inl t_impl_Item))), (111, (.one (.int .i64))), (112, (.one (.int .i64)))], [(.box t_impl_server q51), (.box t_impl_Msg q40), (.row t_impl_Item true), (.row t_bool true), (.row t_int' true), (.row t_int' true), (.row t_impl_Msg true)], 7, [0]⟩
noncomputable def l139_1 : LE := le0 18 s139_1 (fun st => impl_server_add_l18 ((((sv st 4).I) - ((sv st 5).I)).toNat + 1) ((sv st 2).I) ((sv st 3).L) ((sv st 4).I) ((sv st 5).I) (bc st 0) (bc st 1) (br st 2) (br st 3) (br st 4) (br st 5) (br st 6)) a139_1
noncomputable def L139 : Loops := ⟨fun k => (look [(10, [0, 3, 71, 72, 73]), (18, [0, 3, 9, 110, 111, 112])] k).getD [], fun k => (look [(18, [⟨0, some 3, true⟩])] k).getD [], fun k => (look [(10, [0, 3, 4, 5]), (18, [0, 3, 9])] k).getD [], runL [l139_0, l139_1], [], fun _ => []⟩
theorem t139_0 (k_ : Nat) : ∀ (v71 : List V) (v72 : Int) (v73 : Int) (b0 : V) (b1 : V) (r2 : List V) (r3 : List V) (r4 : List V) (r5 : List V) (r6 : List V), Agr id (pk1 a139_0) (impl_server_add_l10 k_ v71 v72 v73 b0 b1 r2 r3 r4 r5 r6) (rounds c139 L139 (lpB Try.f139 0) k_ (s139_0.mk' (stv [.dead, .dead, V.inl 0 v71, vi v72, vi v73] [bx b0, bx b1, rb r2, rb r3, rb r4, rb r5, rb r6]))) := by
  induction k_ with
  | zero => exact fun _ _ _ _ _ _ _ _ _ _ => g0
  | succ k_ ih => exact fun _ _ _ _ _ _ _ _ _ _ => gA (g1 (g1 (g1 (g2 fun _ => g1 g4 (ih _ _ _ _ _ _ _ _ _ _)) (ih _ _ _ _ _ _ _ _ _ _)) g0) g4) (by kernel_rfl)
set_option maxRecDepth 100000 in
theorem t139_1 (k_ : Nat) : ∀ (last9 : Int) (v110 : List V) (v111 : Int) (v112 : Int) (b0 : V) (b1 : V) (r2 : List V) (r3 : List V) (r4 : List V) (r5 : List V) (r6 : List V), Agr id (pk0 a139_1) (impl_server_add_l18 k_ last9 v110 v111 v112 b0 b1 r2 r3 r4 r5 r6) (rounds c139 L139 (lpB Try.f139 1) k_ (s139_1.mk' (stv [.dead, .dead, vi last9, V.inl 0 v110, vi v111, vi v112] [bx b0, bx b1, rb r2, rb r3, rb r4, rb r5, rb r6]))) := by
  induction k_ with
  | zero => exact fun _ _ _ _ _ _ _ _ _ _ _ => g0
  | succ k_ ih => exact fun _ _ _ _ _ _ _ _ _ _ _ => gA (g1 (g1 (g1 (g2 fun _ => g1 (g1 (g1 (g2 fun _ => g1 (ih _ _ _ _ _ _ _ _ _ _ _) g0) (ih _ _ _ _ _ _ _ _ _ _ _)) g0) (g1 (g2 fun _ => g1 (ih _ _ _ _ _ _ _ _ _ _ _) g0) (ih _ _ _ _ _ _ _ _ _ _ _))) (g1 (g2 fun _ => g1 (ih _ _ _ _ _ _ _ _ _ _ _) g0) (ih _ _ _ _ _ _ _ _ _ _ _))) g0) g4) (by kernel_rfl)
theorem o139 : LoopsOk c139 L139 (bodyOf Try.f139) := GoodAll.ok (l := [l139_0, l139_1]) (.cons 0 (by kernel_rfl) (gd1 (fun st => (((sv st 3).I) - ((sv st 4).I)).toNat + 1) (fun st => t139_0 _ _ _ _ _ _ _ _ _ _ _) fun st => by kernel_rfl) (.cons 1 (by kernel_rfl) (gd0 (fun st => (((sv st 4).I) - ((sv st 5).I)).toNat + 1) (fun st => t139_1 _ _ _ _ _ _ _ _ _ _ _ _) fun st => by kernel_rfl) (.nil))) rfl
set_option maxRecDepth 100000 in
noncomputable def e139 : En Try.prog tab := enP base [e136, e170, e164] false [] Try.func139 (L := L139) o139 [(.rf t_impl_server q43), (.agg q40)] (fun a => impl_server_add ((rd a 0).unbox) (rd a 1)) (fun r_ : Int × Bool × V => ((V.tup [(vi r_.1), (V.bool r_.2.1)]), [(V.rf t_impl_server (l44 r_.2.2))])) [] [q45] [none, none] false (by kernel_rfl) fun _ => gA (g1 g4 (g1 g4 (g1 g4 (g2 fun _ => g1 g4 (g2 fun _ => g1 g4 (g2 fun _ => g4)))))) (by kernel_rfl)
set_option maxRecDepth 100000 in
noncomputable def e140 : En Try.prog tab := enP base [e171, e168, e169] false [] Try.func140 noLo [(.rf t_impl_server q43), (.agg q40)] (fun a => impl_server_ack ((rd a 0).unbox) (rd a 1)) (fun r_ : V => ((V.tup []), [(V.rf t_impl_server (l44 r_))])) [] [q45] [none, none] false (by kernel_rfl) fun _ => gA (g1 g4 (g1 g4 (g1 (g1 (g1 (g1 (g1 (g2 fun _ => g4) g0) g4) g0) g0) (g1 g4 (g1 (g1 g4 (g1 (g1 (g2 fun _ => g1 (g2 fun _ => g4) (g1 (g1 (g2 fun _ => g4) g4) g0)) g0) g0)) g0))))) (by kernel_rfl)
set_option maxRecDepth 100000 in
noncomputable def e86 : En Try.prog tab := enP base [e136, e137, e138, e139, e140] false [] Try.func86 noLo [(.rf t_impl_server q43), (.agg q40)] (fun a => impl_server_hear ((rd a 0).unbox) (rd a 1)) (fun r_ : V => ((V.tup []), [(V.rf t_impl_server (l44 r_))])) [] [q45] [none, none] false (by kernel_rfl) fun _ => gA (g1 (g1 (g1 (g1 (g1 (g2 fun _ => g1 (g1 g4 g0) (g1 g4 g0)) (g1 (g2 fun _ => g1 (g1 g4 g0) (g1 g4 g0)) (g1 g4 g0))) (g1 g4 g0)) (g1 g4 g0)) (g1 (g1 (g1 (g1 (g1 (g2 fun _ => g4) g0) g4) g4) g4) (g1 (g2 fun _ => g1 g4 g0) (g2 fun _ => g4)))) (g1 (g1 (g1 (g1 (g2 fun _ => g1 (g1 g4 g0) (g1 g4 g0)) (g1 (g2 fun _ => g1 (g1 g4 g0) (g1 g4 g0)) (g1 g4 g0))) (g1 g4 g0)) (g1 g4 g0)) (g1 (g1 (g1 (g1 (g1 (g2 fun _ => g4) g0) g4) g4) g4) (g1 (g2 fun _ => g1 g4 g0) (g2 fun _ => g4))))) (by kernel_rfl)
set_option maxRecDepth 100000 in
noncomputable def e35 : En Try.prog tab := enP base [e38, e40, e85, e86] false [] Try.func35 noLo [(.agg q4), (.one (.int .i64)), (.agg q40)] (fun a => impl_Hear (rd a 0) ((rd a 1).I) (rd a 2)) (fun r_ : V × List V => ((V.tup [(h1 r_.1), (V.rr t_impl_Msg true r_.2)]), [])) [q2, [(.rr t_impl_Msg true)]] [] [none, none, none] false (by kernel_rfl) fun _ => gA (g2 fun _ => g1 g4 (g2 fun _ => g1 g4 (g1 g4 (g1 g4 (g2 fun _ => g2 fun _ => g4))))) (by kernel_rfl)
noncomputable def e87 : En Try.prog tab := enT base [] false [] Try.func87 noLo [(.one (.int .i64))] (fun a => spec_l4servers ((rd a 0).I)) (fun r_ : Bool => ((V.bool r_), [])) [] [] [none] false (by kernel_rfl) fun _ => gT (g5 g7 g7) (by kernel_rfl)
noncomputable def e88 : En Try.prog tab := enT base [] false [] Try.func88 noLo [(.one (.int .i64))] (fun a => spec_l3term ((rd a 0).I)) (fun r_ : Bool => ((V.bool r_), [])) [] [] [none] false (by kernel_rfl) fun _ => gT (g5 g7 g7) (by kernel_rfl)
noncomputable def e89 : En Try.prog tab := enT base [] false [] Try.func89 noLo [(.one (.int .i64)), (.one (.int .i64))] (fun a => spec_l4who ((rd a 0).I) ((rd a 1).I)) (fun r_ : Bool => ((V.bool r_), [])) [] [] [none, none] false (by kernel_rfl) fun _ => gT (g5 g7 g7) (by kernel_rfl)
noncomputable def e102 : En Try.prog tab := enT base [] false [] Try.func102 noLo [(.one (.inl t_byte))] (fun a => spec_l2val ((rd a 0).L)) (fun r_ : Bool => ((V.bool r_), [])) [] [] [some t_byte] false (by kernel_rfl) fun _ => gT g7 (by kernel_rfl)
noncomputable def e100 : En Try.prog tab := enT base [] false [] Try.func100 noLo [(.one (.int .i64))] (fun a => spec_l2index ((rd a 0).I)) (fun r_ : Bool => ((V.bool r_), [])) [] [] [none] false (by kernel_rfl) fun _ => gT (g5 g7 g7) (by kernel_rfl)
noncomputable def c101 : Cfg := cfgOf (P := Try.prog) (tab := tab) [] false []
def a101_0 (r_ : Nat × Bool) : List (Ex × St) := [(Ex.ret, (⟨[(2, (V.bool r_.2))], [], 0, []⟩ : St)), ((Ex.exit 0), (⟨[(2, V.dead)], [], 0, []⟩ : St))]
def s101_0 : SS := ⟨[(0, (.one (.inl t_byte))), (3, (.one (.int .i64)))], [], 0, []⟩
noncomputable def l101_0 : LE := le1 4 s101_0 (fun st => spec_l2key_l4 ((((((sv st 0).L).length : Nat) : Int) - ((sv st 1).I)).toNat + 1) ((sv st 0).L) ((sv st 1).I)) a101_0
noncomputable def L101 : Loops := ⟨fun k => (look [(4, [0, 3])] k).getD [], fun _ => [], fun k => (look [(4, [2])] k).getD [], runL [l101_0], [], fun _ => []⟩
set_option maxRecDepth 100000 in
theorem t101_0 (k_ : Nat) : ∀ (b0 : List V) (i3 : Int), Agr id (pk1 a101_0) (spec_l2key_l4 k_ b0 i3) (rounds c101 L101 (lpB Try.f101 0) k_ (s101_0.mk' (stv [V.inl 0 b0, vi i3] []))) := by
  induction k_ with
  | zero => exact fun _ _ => g0
  | succ k_ ih => exact fun _ _ => gA (g1 (g1 (g1 (g1 (g1 g4 (ih _ _)) g0) (g1 (g1 (g1 (g1 g4 (ih _ _)) g0) (ih _ _)) g0)) g0) g4) (by kernel_rfl)
theorem o101 : LoopsOk c101 L101 (bodyOf Try.f101) := GoodAll.ok (l := [l101_0]) (.cons 0 (by kernel_rfl) (gd1 (fun st => (((((sv st 0).L).length : Nat) : Int) - ((sv st 1).I)).toNat + 1) (fun st => t101_0 _ _ _) fun st => by kernel_rfl) (.nil)) rfl
noncomputable def e101 : En Try.prog tab := enP base [] false [] Try.func101 (L := L101) o101 [(.one (.inl t_byte))] (fun a => spec_l2key ((rd a 0).L)) (fun r_ : Bool => ((V.bool r_), [])) [] [] [some t_byte] false (by kernel_rfl) fun _ => gA (g1 g4 (g1 g4 (g2 fun _ => g1 g4 g4))) (by kernel_rfl)
set_option maxRecDepth 100000 in
noncomputable def e172 : En Try.prog tab := enP base [e102, e100, e101] false [] Try.func172 noLo [(.agg q35)] (fun a => spec_OpOk (rd a 0)) (fun r_ : Bool => ((V.bool r_), [])) [] [] [none] false (by kernel_rfl) fun _ => gA (g1 g4 (g1 g4 (g1 g4 (g1 g4 (g1 (g2 fun _ => g1 g4 (g1 (g1 g4 (g1 g4 (g1 g4 (g1 g4 (g1 g4 g4))))) (g1 (g1 g4 (g1 g4 (g1 g4 (g1 g4 (g1 g4 g4))))) (g1 (g1 g4 (g1 g4 (g1 g4 (g1 g4 (g1 g4 (g1 g4 g4)))))) (g1 g4 (g1 g4 (g1 g4 (g1 g4 (g1 g4 g4))))))))) (g1 (g2 fun _ => g1 g4 (g1 (g1 g4 (g1 g4 (g1 g4 (g1 g4 (g1 g4 g4))))) (g1 (g1 g4 (g1 g4 (g1 g4 (g1 g4 (g1 g4 g4))))) (g1 (g1 g4 (g1 g4 (g1 g4 (g1 g4 (g1 g4 (g1 g4 g4)))))) (g1 g4 (g1 g4 (g1 g4 (g1 g4 (g1 g4 g4))))))))) (g1 (g2 fun _ => g1 g4 (g1 (g1 g4 (g1 g4 (g1 g4 (g1 g4 (g1 g4 g4))))) (g1 (g1 g4 (g1 g4 (g1 g4 (g1 g4 (g1 g4 g4))))) (g1 (g1 g4 (g1 g4 (g1 g4 (g1 g4 (g1 g4 (g1 g4 g4)))))) (g1 g4 (g1 g4 (g1 g4 (g1 g4 (g1 g4 g4))))))))) (g1 (g2 fun _ => g1 g4 (g1 (g1 g4 (g1 g4 (g1 g4 (g1 g4 (g1 g4 g4))))) (g1 (g1 g4 (g1 g4 (g1 g4 (g1 g4 (g1 g4 g4))))) (g1 (g1 g4 (g1 g4 (g1 g4 (g1 g4 (g1 g4 (g1 g4 g4)))))) (g1 g4 (g1 g4 (g1 g4 (g1 g4 (g1 g4 g4))))))))) (g1 (g2 fun _ => g1 g4 (g1 (g1 g4 (g1 (g1 g4 (g1 g4 (g1 g4 (g1 g4 (g1 g4 g4))))) (g1 (g1 g4 (g1 g4 (g1 g4 (g1 g4 (g1 g4 g4))))) (g1 (g1 g4 (g1 g4 (g1 g4 (g1 g4 (g1 g4 (g1 g4 g4)))))) (g1 g4 (g1 g4 (g1 g4 (g1 g4 (g1 g4 g4))))))))) (g1 (g1 g4 (g1 g4 (g1 g4 (g1 g4 (g1 g4 g4))))) (g1 (g1 g4 (g1 g4 (g1 g4 (g1 g4 (g1 g4 g4))))) (g1 (g1 g4 (g1 g4 (g1 g4 (g1 g4 (g1 g4 (g1 g4 g4)))))) (g1 g4 (g1 g4 (g1 g4 (g1 g4 (g1 g4 g4)))))))))) (g1 (g1 g4 (g1 (g1 g4 (g1 g4 (g1 g4 (g1 g4 (g1 g4 g4))))) (g1 (g1 g4 (g1 g4 (g1 g4 (g1 g4 (g1 g4 g4))))) (g1 (g1 g4 (g1 g4 (g1 g4 (g1 g4 (g1 g4 (g1 g4 g4)))))) (g1 g4 (g1 g4 (g1 g4 (g1 g4 (g1 g4 g4))))))))) (g1 (g1 g4 (g1 g4 (g1 g4 (g1 g4 (g1 g4 g4))))) (g1 (g1 g4 (g1 g4 (g1 g4 (g1 g4 (g1 g4 g4))))) (g1 (g1 g4 (g1 g4 (g1 g4 (g1 g4 (g1 g4 (g1 g4 g4)))))) (g1 g4 (g1 g4 (g1 g4 (g1 g4 (g1 g4 g4)))))))))))))))))) (by kernel_rfl)
set_option maxRecDepth 100000 in
noncomputable def e141 : En Try.prog tab := enP base [e172] false [] Try.func141 noLo [(.agg q36)] (fun a => spec_CmdOk (rd a 0)) (fun r_ : Bool => ((V.bool r_), [])) [] [] [none] false (by kernel_rfl) fun _ => gA (g1 (g1 (g1 (g2 fun _ => g4) g4) g4) (g1 (g1 (g1 (g1 (g2 fun _ => g4) g4) g4) g4) g4)) (by kernel_rfl)
noncomputable def e90 : En Try.prog tab := enP base [e141] false [] Try.func90 noLo [(.agg q37)] (fun a => spec_ItemOk (rd a 0)) (fun r_ : Bool => ((V.bool r_), [])) [] [] [none] false (by kernel_rfl) fun _ => gA (g1 (g1 (g2 fun _ => g4) g4) g4) (by kernel_rfl)
noncomputable def c36 : Cfg := cfgOf (P := Try.prog) (tab := tab) [e87, e88, e89, e90] false []
def a36_0 (r_ : Nat × Int × Bool × V) : List (Ex × St) := [(Ex.ret, (⟨[(1, (vi r_.2.1)), (2, (V.bp 0 0)), (4, (V.bool r_.2.2.1))], [(0, some (Blk.box t_impl_Node (l38 r_.2.2.2)))], 1, []⟩ : St)), ((Ex.exit 0), (⟨[(1, (vi r_.2.1)), (2, (V.bp 0 0)), (4, V.dead)], [(0, some (Blk.box t_impl_Node (l38 r_.2.2.2)))], 1, []⟩ : St))]
def s36_0 : SS := ⟨[(1, (.one (.int .i64))), (2, (.one (.bp 0 0))), (5, (.one (.int .i64)))], [(.box t_impl_Node q4)], 1, []⟩
noncomputable def l36_0 : LE := le1 4 s36_0 (fun st => spec_NodeOk_l4 (((((gl (bc st 0) 3).length : Nat) : Int) - ((sv st 2).I)).toNat + 1) ((sv st 0).I) ((sv st 2).I) (bc st 0)) a36_0
def a36_1 (r_ : Nat × Bool × V) : List (Ex × St) := [(Ex.ret, (⟨[(2, (V.bp 0 0)), (4, (V.bool r_.2.1))], [(0, some (Blk.box t_impl_Node (l38 r_.2.2)))], 1, []⟩ : St)), ((Ex.exit 2), (⟨[(2, (V.bp 0 0)), (4, V.dead)], [(0, some (Blk.box t_impl_Node (l38 r_.2.2)))], 1, []⟩ : St))]
def s36_1 : SS := ⟨[(1, (.one (.int .i64))), (2, (.one (.bp 0 0))), (6, (.one (.int .i64)))], [(.box t_impl_Node q4)], 1, []⟩
noncomputable def l36_1 : LE := le1 11 s36_1 (fun st => spec_NodeOk_l11 ((((sv st 0).I) - ((sv st 2).I)).toNat + 1) ((sv st 0).I) ((sv st 2).I) (bc st 0)) a36_1
noncomputable def L36 : Loops := ⟨fun k => (look [(4, [1, 2, 5]), (11, [1, 2, 6])] k).getD [], fun _ => [], fun k => (look [(4, [1, 2, 4]), (11, [2, 4])] k).getD [], runL [l36_0, l36_1], [], fun _ => []⟩
set_option maxRecDepth 100000 in
theorem t36_0 (k_ : Nat) : ∀ (servers1 : Int) (i5 : Int) (b0 : V), Agr id (pk1 a36_0) (spec_NodeOk_l4 k_ servers1 i5 b0) (rounds c36 L36 (lpB Try.f36 0) k_ (s36_0.mk' (stv [vi servers1, .dead, vi i5] [bx b0]))) := by
  induction k_ with
  | zero => exact fun _ _ _ => g0
  | succ k_ ih => exact fun _ _ _ => gA (g1 (g1 (g2 fun _ => g1 g4 (g1 (g1 g4 (g1 (g1 (g1 (g1 g4 (ih _ _ _)) g0) g0) (ih _ _ _))) g0)) g0) g4) (by kernel_rfl)
set_option maxRecDepth 100000 in
theorem t36_1 (k_ : Nat) : ∀ (servers1 : Int) (i6 : Int) (b0 : V), Agr id (pk1 a36_1) (spec_NodeOk_l11 k_ servers1 i6 b0) (rounds c36 L36 (lpB Try.f36 1) k_ (s36_1.mk' (stv [vi servers1, .dead, vi i6] [bx b0]))) := by
  induction k_ with
  | zero => exact fun _ _ _ => g0
  | succ k_ ih => exact fun _ _ _ => gA (g1 (g1 (g1 (g1 g4 (g1 (g1 g4 (g1 (g1 g4 (g1 (g1 g4 (g1 (g1 (g1 g4 (g1 (g1 g4 (g1 (g1 (g1 g4 (ih _ _ _)) g0) (ih _ _ _))) g0)) g0) (g1 (g1 (g1 g4 (ih _ _ _)) g0) (ih _ _ _)))) g0)) g0)) g0)) g0) (g1 (g1 (g1 g4 (g1 (g1 g4 (g1 (g1 (g1 g4 (ih _ _ _)) g0) (ih _ _ _))) g0)) g0) (g1 (g1 (g1 g4 (ih _ _ _)) g0) (ih _ _ _)))) g4) (by kernel_rfl)
theorem o36 : LoopsOk c36 L36 (bodyOf Try.f36) := GoodAll.ok (l := [l36_0, l36_1]) (.cons 0 (by kernel_rfl) (gd1 (fun st => ((((gl (bc st 0) 3).length : Nat) : Int) - ((sv st 2).I)).toNat + 1) (fun st => t36_0 _ _ _ _) fun st => by kernel_rfl) (.cons 1 (by kernel_rfl) (gd1 (fun st => (((sv st 0).I) - ((sv st 2).I)).toNat + 1) (fun st => t36_1 _ _ _ _) fun st => by kernel_rfl) (.nil))) rfl
set_option maxRecDepth 100000 in
noncomputable def e36 : En Try.prog tab := enP base [e87, e88, e89, e90] false [] Try.func36 (L := L36) o36 [(.agg q4), (.one (.int .i64))] (fun a => spec_NodeOk (rd a 0) ((rd a 1).I)) (fun r_ : Bool => ((V.bool r_), [])) [] [] [none, none] false (by kernel_rfl) fun _ => gA (g1 g4 (g1 g4 (g1 g4 (g1 g4 (g1 g4 (g1 g4 (g1 g4 (g1 g4 (g1 g4 (g1 g4 (g1 g4 (g1 g4 (g1 g4 (g1 g4 (g1 g4 (g1 g4 (g2 fun _ => g1 g4 (g1 (g1 g4 (g1 g4 (g2 fun _ => g1 g4 (g1 g4 g4)))) (g2 fun _ => g1 g4 (g1 g4 g4)))))))))))))))))))) (by kernel_rfl)
noncomputable def e91 : En Try.prog tab := enT base [] false [] Try.func91 noLo [(.one (.int .i64))] (fun a => spec_l3server ((rd a 0).I)) (fun r_ : Bool => ((V.bool r_), [])) [] [] [none] false (by kernel_rfl) fun _ => gT (g5 g7 g7) (by kernel_rfl)
noncomputable def e92 : En Try.prog tab := enT base [] false [] Try.func92 noLo [(.one (.int .i64))] (fun a => spec_l3place ((rd a 0).I)) (fun r_ : Bool => ((V.bool r_), [])) [] [] [none] false (by kernel_rfl) fun _ => gT (g5 g7 g7) (by kernel_rfl)
noncomputable def c37 : Cfg := cfgOf (P := Try.prog) (tab := tab) [e91, e88, e92, e90] false []
def a37_0 (r_ : Nat × Bool × V) : List (Ex × St) := [(Ex.ret, (⟨[(1, (V.bp 0 0)), (2, (V.bool r_.2.1))], [(0, some (Blk.box t_impl_Msg (l39 r_.2.2)))], 1, []⟩ : St)), ((Ex.exit 0), (⟨[(1, (V.bp 0 0)), (2, V.dead)], [(0, some (Blk.box t_impl_Msg (l39 r_.2.2)))], 1, []⟩ : St))]
def s37_0 : SS := ⟨[(1, (.one (.bp 0 0))), (3, (.one (.int .i64)))], [(.box t_impl_Msg q40)], 1, []⟩
noncomputable def l37_0 : LE := le1 6 s37_0 (fun st => spec_MsgOk_l6 (((((gl (bc st 0) 6).length : Nat) : Int) - ((sv st 1).I)).toNat + 1) ((sv st 1).I) (bc st 0)) a37_0
noncomputable def L37 : Loops := ⟨fun k => (look [(6, [1, 3])] k).getD [], fun _ => [], fun k => (look [(6, [1, 2])] k).getD [], runL [l37_0], [], fun _ => []⟩
set_option maxRecDepth 100000 in
theorem t37_0 (k_ : Nat) : ∀ (i3 : Int) (b0 : V), Agr id (pk1 a37_0) (spec_MsgOk_l6 k_ i3 b0) (rounds c37 L37 (lpB Try.f37 0) k_ (s37_0.mk' (stv [.dead, vi i3] [bx b0]))) := by
  induction k_ with
  | zero => exact fun _ _ => g0
  | succ k_ ih => exact fun _ _ => gA (g1 (g1 (g2 fun _ => g1 g4 (g1 (g1 g4 (g1 (g1 (g1 (g1 g4 (g1 (g1 g4 (ih _ _)) g0)) g0) g0) (g1 (g1 g4 (ih _ _)) g0))) g0)) g0) g4) (by kernel_rfl)
theorem o37 : LoopsOk c37 L37 (bodyOf Try.f37) := GoodAll.ok (l := [l37_0]) (.cons 0 (by kernel_rfl) (gd1 (fun st => ((((gl (bc st 0) 6).length : Nat) : Int) - ((sv st 1).I)).toNat + 1) (fun st => t37_0 _ _ _) fun st => by kernel_rfl) (.nil)) rfl
set_option maxRecDepth 100000 in
noncomputable def e37 : En Try.prog tab := enP base [e91, e88, e92, e90] false [] Try.func37 (L := L37) o37 [(.agg q40)] (fun a => spec_MsgOk (rd a 0)) (fun r_ : Bool => ((V.bool r_), [])) [] [] [none] false (by kernel_rfl) fun _ => gA (g1 g4 (g1 g4 (g1 g4 (g1 g4 (g1 g4 (g1 g4 (g1 g4 (g1 g4 (g1 g4 (g1 g4 (g1 g4 (g1 g4 (g1 g4 (g1 (g1 (g1 g4 (g2 fun _ => g1 g4 (g1 (g1 (g1 g4 g4) g4) (g1 (g1 (g1 (g1 g4 g4) g4) g4) (g1 g4 (g1 (g1 g4 g4) g4)))))) (g2 fun _ => g1 g4 (g1 (g1 (g1 g4 g4) g4) (g1 (g1 (g1 (g1 g4 g4) g4) g4) (g1 g4 (g1 (g1 g4 g4) g4)))))) (g2 fun _ => g1 g4 (g1 (g1 (g1 g4 g4) g4) (g1 (g1 (g1 (g1 g4 g4) g4) g4) (g1 g4 (g1 (g1 g4 g4) g4))))))))))))))))))) (by kernel_rfl)
noncomputable def e56 : En Try.prog tab := enT base [] false [] Try.func56 noLo [(.one (.inl t_byte)), (.one (.inl t_byte))] (fun a => laws_sameBytes ((rd a 0).L) ((rd a 1).L)) (fun r_ : Bool => ((V.bool r_), [])) [] [] [some t_byte, some t_byte] false (by kernel_rfl) fun _ => gT g7 (by kernel_rfl)
noncomputable def e96 : En Try.prog tab := enT base [e56] false [] Try.func96 noLo [(.agg q35), (.agg q35)] (fun a => laws_sameOp (rd a 0) (rd a 1)) (fun r_ : Bool => ((V.bool r_), [])) [] [] [none, none] false (by kernel_rfl) fun _ => gT (g5 (g5 (g5 g7 g7) g7) g7) (by kernel_rfl)
noncomputable def e39 : En Try.prog tab := enT base [e96] false [] Try.func39 noLo [(.agg q36), (.agg q36)] (fun a => laws_sameCmd (rd a 0) (rd a 1)) (fun r_ : Bool => ((V.bool r_), [])) [] [] [none, none] false (by kernel_rfl) fun _ => gT (g5 (g5 g7 g7) g7) (by kernel_rfl)
noncomputable def c6 : Cfg := cfgOf (P := Try.prog) (tab := tab) [e34, e35, e36, e37, e38, e39, e40] false []
def a6_0 (r_ : Nat × Bool × V × V × List V × List V × List V × List V × List V × List V × List V × List V × List V) : List (Ex × St) := [(Ex.ret, (⟨[(2, (V.bool r_.2.1)), (3, (V.bp 0 0)), (6, (V.bp 1 0)), (7, (vs 2 t_impl_Msg))], [(0, some (Blk.box t_impl_Node (l5 r_.2.2.1))), (1, some (Blk.box t_impl_Node (l6 r_.2.2.2.1))), (2, some (Blk.row t_impl_Msg true r_.2.2.2.2.1)), (3, some (Blk.row t_impl_Item false r_.2.2.2.2.2.1)), (4, some (Blk.row t_bool true r_.2.2.2.2.2.2.1)), (5, some (Blk.row t_int' true r_.2.2.2.2.2.2.2.1)), (6, some (Blk.row t_int' true r_.2.2.2.2.2.2.2.2.1)), (7, some (Blk.row t_impl_Item true r_.2.2.2.2.2.2.2.2.2.1)), (8, some (Blk.row t_bool true r_.2.2.2.2.2.2.2.2.2.2.1)), (9, some (Blk.row t_int' true r_.2.2.2.2.2.2.2.2.2.2.2.1)), (10, some (Blk.row t_int' true r_.2.2.2.2.2.2.2.2.2.2.2.2))], 11, []⟩ : St)), ((Ex.exit 0), (⟨[(2, V.dead), (3, (V.bp 0 0)), (6, (V.bp 1 0)), (7, (vs 2 t_impl_Msg))], [(0, some (Blk.box t_impl_Node (l5 r_.2.2.1))), (1, some (Blk.box t_impl_Node (l6 r_.2.2.2.1))), (2, some (Blk.row t_impl_Msg true r_.2.2.2.2.1)), (3, some (Blk.row t_impl_Item false r_.2.2.2.2.2.1)), (4, some (Blk.row t_bool true r_.2.2.2.2.2.2.1)), (5, some (Blk.row t_int' true r_.2.2.2.2.2.2.2.1)), (6, some (Blk.row t_int' true r_.2.2.2.2.2.2.2.2.1)), (7, some (Blk.row t_impl_Item true r_.2.2.2.2.2.2.2.2.2.1)), (8, some (Blk.row t_bool true r_.2.2.2.2.2.2.2.2.2.2.1)), (9, some (Blk.row t_int' true r_.2.2.2.2.2.2.2.2.2.2.2.1)), (10, some (Blk.row t_int' true r_.2.2.2.2.2.2.2.2.2.2.2.2))], 11, []⟩ : St))]
def s6_0 : SS := ⟨[(3, (.one (.bp 0 0))), (6, (.one (.bp 1 0))), (7, (.one (.sl 2 t_impl_Msg))), (8, (.one (.int .i64)))], [(.box t_impl_Node q7), (.box t_impl_Node q8), (.row t_impl_Msg true), (.row t_impl_Item false), (.row t_bool true), (.row t_int' true), (.row t_int' true), (.row t_impl_Item true), (.row t_bool true), (.row t_int' true), (.row t_int' true)], 11, []⟩
noncomputable def l6_0 : LE := le1 8 s6_0 (fun st => laws_FnHears_l8 (((gi (bc st 0) 4) - ((sv st 3).I)).toNat + 1) ((sv st 3).I) (bc st 0) (bc st 1) (br st 2) (br st 3) (br st 4) (br st 5) (br st 6) (br st 7) (br st 8) (br st 9) (br st 10)) a6_0
def a6_1 (r_ : Nat × Bool) : List (Ex × St) := [(Ex.ret, (⟨[(2, (V.bool r_.2))], [], 0, []⟩ : St)), ((Ex.exit 2), (⟨[(2, V.dead)], [], 0, []⟩ : St))]
def s6_1 : SS := ⟨[(3, (.one (.bp 0 0))), (6, (.one (.bp 1 0))), (7, (.one (.sl 2 t_impl_Msg))), (9, (.one (.int .i64)))], [(.box t_impl_Node q7), (.box t_impl_Node q8), (.row t_impl_Msg true), (.row t_impl_Item false), (.row t_bool true), (.row t_int' true), (.row t_int' true), (.row t_impl_Item true), (.row t_bool true), (.row t_int' true), (.row t_int' true)], 11, []⟩
noncomputable def l6_1 : LE := le1 13 s6_1 (fun st => laws_FnHears_l13 (((((br st 2).length : Nat) : Int) - ((sv st 3).I)).toNat + 1) ((sv st 3).I) (bc st 0) (bc st 1) (br st 2) (br st 3) (br st 4) (br st 5) (br st 6) (br st 7) (br st 8) (br st 9) (br st 10)) a6_1
noncomputable def L6 : Loops := ⟨fun k => (look [(8, [3, 6, 7, 8]), (13, [3, 6, 7, 9])] k).getD [], fun _ => [], fun k => (look [(8, [2, 3, 6, 7]), (13, [2])] k).getD [], runL [l6_0, l6_1], [], fun _ => []⟩
set_option maxRecDepth 100000 in
theorem t6_0 (k_ : Nat) : ∀ (i8 : Int) (b0 : V) (b1 : V) (r2 : List V) (r3 : List V) (r4 : List V) (r5 : List V) (r6 : List V) (r7 : List V) (r8 : List V) (r9 : List V) (r10 : List V), Agr id (pk1 a6_0) (laws_FnHears_l8 k_ i8 b0 b1 r2 r3 r4 r5 r6 r7 r8 r9 r10) (rounds c6 L6 (lpB Try.f6 0) k_ (s6_0.mk' (stv [.dead, .dead, .dead, vi i8] [bx b0, bx b1, rb r2, rb r3, rb r4, rb r5, rb r6, rb r7, rb r8, rb r9, rb r10]))) := by
  induction k_ with
  | zero => exact fun _ _ _ _ _ _ _ _ _ _ _ _ => g0
  | succ k_ ih => exact fun _ _ _ _ _ _ _ _ _ _ _ _ => gA (g1 (g1 (g1 (g1 g4 (g1 (g1 (g1 g4 (ih _ _ _ _ _ _ _ _ _ _ _ _)) g0) g0)) g0) g0) g4) (by kernel_rfl)
set_option maxRecDepth 100000 in
theorem t6_1 (k_ : Nat) : ∀ (i9 : Int) (b0 : V) (b1 : V) (r2 : List V) (r3 : List V) (r4 : List V) (r5 : List V) (r6 : List V) (r7 : List V) (r8 : List V) (r9 : List V) (r10 : List V), Agr id (pk1 a6_1) (laws_FnHears_l13 k_ i9 b0 b1 r2 r3 r4 r5 r6 r7 r8 r9 r10) (rounds c6 L6 (lpB Try.f6 1) k_ (s6_1.mk' (stv [.dead, .dead, .dead, vi i9] [bx b0, bx b1, rb r2, rb r3, rb r4, rb r5, rb r6, rb r7, rb r8, rb r9, rb r10]))) := by
  induction k_ with
  | zero => exact fun _ _ _ _ _ _ _ _ _ _ _ _ => g0
  | succ k_ ih => exact fun _ _ _ _ _ _ _ _ _ _ _ _ => gA (g1 (g1 (g2 fun _ => g1 g4 (g1 (g1 g4 (g1 (g1 g4 (ih _ _ _ _ _ _ _ _ _ _ _ _)) g0)) g0)) g0) g4) (by kernel_rfl)
theorem o6 : LoopsOk c6 L6 (bodyOf Try.f6) := GoodAll.ok (l := [l6_0, l6_1]) (.cons 0 (by kernel_rfl) (gd1 (fun st => ((gi (bc st 0) 4) - ((sv st 3).I)).toNat + 1) (fun st => t6_0 _ _ _ _ _ _ _ _ _ _ _ _ _) fun st => by kernel_rfl) (.cons 1 (by kernel_rfl) (gd1 (fun st => ((((br st 2).length : Nat) : Int) - ((sv st 3).I)).toNat + 1) (fun st => t6_1 _ _ _ _ _ _ _ _ _ _ _ _ _) fun st => by kernel_rfl) (.nil))) rfl
set_option maxRecDepth 100000 in
noncomputable def e6 : En Try.prog tab := enP base [e34, e35, e36, e37, e38, e39, e40] false [] Try.func6 (L := L6) o6 [(.one (.inl t_byte))] (fun a => laws_FnHears ((rd a 0).L)) (fun r_ : Bool => ((V.bool r_), [])) [] [] [some t_byte] false (by kernel_rfl) fun _ => gA (g2 fun _ => g2 fun _ => g2 fun _ => g1 (g1 g4 g4) (g2 fun _ => g1 (g1 g4 g4) (g1 (g1 g4 g4) (g1 (g1 g4 g4) (g2 fun _ => g1 g4 (g1 g4 (g1 g4 (g1 g4 (g1 (g1 (g1 g4 (g2 fun _ => g1 g4 (g2 fun _ => g1 g4 g4))) (g2 fun _ => g1 g4 (g2 fun _ => g1 g4 g4))) (g2 fun _ => g1 g4 (g2 fun _ => g1 g4 g4))))))))))) (by kernel_rfl)
end Go.Eng.R
open Go Go.Eng
namespace Go.Eng.R
def W_Item (x : V) : Prop := I64 (gi x 0) ∧ I64 (gi x 1) ∧ I64 (gi x 2) ∧ I64 (gi x 3) ∧ LW W_byte (gl x 4) ∧ LW W_byte (gl x 5) ∧ I64 (gi x 6)
def z_Item (x : V) : Nat := zS z0 (gl x 4) + zS z0 (gl x 5)
def c_Item (x : V) : Nat := 1 + 1 + 1 + 1 + sumL c1 (gl x 4) + sumL c1 (gl x 5) + 1
theorem c_Item_cz (x : V) : c_Item x ≤ 5 * (1 + z_Item x) := by
  have h0 : sumL c1 (gl x 4) ≤ 1 * zS z0 (gl x 4) := by rw [sumL_c1, zS_z0]; omega
  have h1 : sumL c1 (gl x 5) ≤ 1 * zS z0 (gl x 5) := by rw [sumL_c1, zS_z0]; omega
  simp only [c_Item, z_Item]; omega
def W_Node (x : V) : Prop := I64 (gi x 0) ∧ I64 (gi x 1) ∧ I64 (gi x 2) ∧ LW W_Item (gl x 3) ∧ I64 (gi x 4) ∧ I64 (gi x 5) ∧ I64 (gi x 6) ∧ I64 (gi x 7) ∧ LW W_bool (gl x 8) ∧ LW W_int (gl x 9) ∧ LW W_int (gl x 10)
def W_Msg (x : V) : Prop := I64 (gi x 0) ∧ I64 (gi x 1) ∧ I64 (gi x 2) ∧ I64 (gi x 3) ∧ I64 (gi x 4) ∧ I64 (gi x 5) ∧ LW W_Item (gl x 6) ∧ I64 (gi x 7) ∧ True
def z_Msg (x : V) : Nat := zS z_Item (gl x 6)
def c_Msg (x : V) : Nat := 1 + 1 + 1 + 1 + 1 + 1 + sumL c_Item (gl x 6) + 1 + 1
def ct_Msg (x : V) : Nat := sumL c_Item (gl x 6)
def W_Op (x : V) : Prop := I64 (gi x 0) ∧ LW W_byte (gl x 1) ∧ LW W_byte (gl x 2) ∧ I64 (gi x 3)
def W_Cmd (x : V) : Prop := I64 (gi x 0) ∧ I64 (gi x 1) ∧ I64 (gi x 2) ∧ LW W_byte (gl x 3) ∧ LW W_byte (gl x 4) ∧ I64 (gi x 5)
end Go.Eng.R
open Go Go.Eng
namespace Go.Eng.R
def Ok {α : Type} (P : α → Prop) (o : Option α) : Prop := ∃ x, o = some x ∧ P x
theorem Ok.bind {α β : Type} {P : β → Prop} {Q : α → Prop} {o : Option α} {f : α → Option β} (h : Ok Q o) (g : ∀ x, Q x → Ok P (f x)) : Ok P (Option.bind o f) := by
  obtain ⟨x, rfl, hx⟩ := h
  exact g x hx
theorem Ok.ret {α : Type} {P : α → Prop} {x : α} (h : P x) : Ok P (some x) := ⟨x, rfl, h⟩
theorem Ok.chk {α : Type} {P : α → Prop} {b : Bool} {x : Option α} (h : b = true) (g : Ok P x) : Ok P (bif b then x else none) := by subst h; exact g
theorem Ok.ite {α : Type} {P : α → Prop} {b : Bool} {x y : Option α} (g1 : b = true → Ok P x) (g2 : b = false → Ok P y) : Ok P (bif b then x else y) := by
  cases b with
  | true => exact g1 rfl
  | false => exact g2 rfl
theorem Ok.iteT {α : Type} {P : α → Prop} {b : Bool} {x y : Option α} (h : b = true) (g : Ok P x) : Ok P (bif b then x else y) := by subst h; exact g
theorem Ok.iteF {α : Type} {P : α → Prop} {b : Bool} {x y : Option α} (h : b = false) (g : Ok P y) : Ok P (bif b then x else y) := by subst h; exact g
theorem Ok.mono {α : Type} {P Q : α → Prop} {o : Option α} (h : Ok P o) (g : ∀ x, P x → Q x) : Ok Q o := by
  obtain ⟨x, e, hx⟩ := h
  exact ⟨x, e, g x hx⟩
def Ok2 {α β : Type} (P : α → β → Prop) (o : Option (α × β)) : Prop := ∃ x y, o = some (x, y) ∧ P x y
theorem Ok.bind2 {α β γ : Type} {P : γ → Prop} {Q : α → β → Prop} {o : Option (α × β)} {f : α × β → Option γ} (h : Ok2 Q o) (g : ∀ x y, Q x y → Ok P (f (x, y))) : Ok P (Option.bind o f) := by
  obtain ⟨x, y, rfl, hx⟩ := h
  exact g x y hx
theorem Ok2.of {α β : Type} {Q : α → β → Prop} {o : Option (α × β)} (h : Ok (fun r => Q r.1 r.2) o) : Ok2 Q o := by
  obtain ⟨⟨x, y⟩, e, hx⟩ := h
  exact ⟨x, y, e, hx⟩
theorem Ok2.ok {α β : Type} {Q : α → β → Prop} {o : Option (α × β)} (h : Ok2 Q o) : Ok (fun r => Q r.1 r.2) o := by
  obtain ⟨x, y, e, hx⟩ := h
  exact ⟨(x, y), e, hx⟩
theorem wrI (n : Int) : I64 (IntKind.i64.wrap n) := by unfold I64; rw [IntKind.wrap_i64]; omega
theorem I64.of {n : Int} (h : 0 ≤ n) (h1 : n ≤ 4294967296) : I64 n := ⟨by omega, by omega⟩
theorem LW.snoc {W : V → Prop} {l : List V} {x : V} (h : LW W l) (hl : l.length < 9223372036854775807) (hx : W x) : LW W (l ++ [x]) := by
  refine ⟨by simp; omega, fun y hy => ?_⟩
  rcases List.mem_append.1 hy with hy | hy
  · exact h.2 y hy
  · simp at hy; subst hy; exact hx
theorem LW.set' {W : V → Prop} {l : List V} {x : V} (h : LW W l) (j : Nat) (hx : W x) : LW W (l.set j x) := by
  refine ⟨by simpa using h.1, fun y hy => ?_⟩
  rcases List.mem_or_eq_of_mem_set hy with hy | hy
  · exact h.2 y hy
  · subst hy; exact hx
theorem LW.rep {W : V → Prop} {n : Nat} {x : V} (hn : n ≤ 9223372036854775807) (hx : W x) : LW W (List.replicate n x) :=
  ⟨by simpa using hn, fun y hy => by rw [List.mem_replicate] at hy; rw [hy.2]; exact hx⟩
theorem idx_of {i : Int} {n : Nat} (h0 : 0 ≤ i) (h1 : i < (n : Int)) : idxOk i n = true := by simp [idxOk]; omega
theorem room_of {n b : Nat} (h : n * b ≤ 140737488355328) (h1 : n ≤ 9223372036854775807) : (roomy n b && true) = true := by rw [roomy_of h h1]; rfl
def allI : List V → Prop
  | [] => True
  | x :: l => I64 (gi x 0) ∧ allI l
theorem allI_rd : ∀ {l : List V}, allI l → ∀ j, j < l.length → I64 (gi (rd l j) 0)
  | [], _, j, h => by simp at h
  | x :: l, ⟨h, _⟩, 0, _ => h
  | x :: l, ⟨_, h⟩, j + 1, hj => allI_rd h j (by simpa using hj)
theorem gi_v0 (k : IntKind) (n : Int) : gi (V.int k n) 0 = n := rfl
theorem LW.takeL {W : V → Prop} {l : List V} (h : LW W l) (n : Nat) : LW W (l.take n) := ⟨by have := h.1; rw [List.length_take]; omega, fun x hx => h.2 x (List.mem_of_mem_take hx)⟩
theorem LW.dropL {W : V → Prop} {l : List V} (h : LW W l) (n : Nat) : LW W (l.drop n) := ⟨by have := h.1; rw [List.length_drop]; omega, fun x hx => h.2 x (List.mem_of_mem_drop hx)⟩
theorem W_int.mk {n : Int} (h : I64 n) : W_int (V.int .i64 n) := h
end Go.Eng.R
open Go Go.Eng
namespace Go.Eng.R
theorem bAnd_le (a : Int) {b : Int} (h0 : 0 ≤ b) (h1 : b ≤ 9223372036854775807) : 0 ≤ bAnd .i64 a b ∧ bAnd .i64 a b ≤ b := by
  unfold bAnd
  have e : (BitVec.ofInt (IntKind.bits .i64) b).toNat = b.toNat := by
    rw [BitVec.toNat_ofInt]
    rw [Int.emod_eq_of_lt h0 (by show b < ((2 ^ 64 : Nat) : Int); omega)]
  have h : (BitVec.ofInt (IntKind.bits .i64) a &&& BitVec.ofInt (IntKind.bits .i64) b).toNat ≤ b.toNat := by
    rw [BitVec.toNat_and, e]
    exact Nat.and_le_right
  rw [wr64' (by omega) (by omega)]
  omega
def CurOk (c : V) : Prop := LW W_byte (gl c 0) ∧ 0 ≤ gi c 1 ∧ gi c 1 ≤ (((gl c 0).length : Nat) : Int)
theorem byte_ok {c : V} (h : CurOk c) : ∃ x c', spec_l1Byte (n_spec_l1Cur c) = some (x, c') ∧ CurOk c' ∧ 0 ≤ x ∧ x ≤ 255 ∧ gl c' 0 = gl c 0 := by
  obtain ⟨h1, h2, h3⟩ := h
  have hl := h1.1
  unfold spec_l1Byte
  simp only [show gl (n_spec_l1Cur c) 0 = gl c 0 from rfl, show gi (n_spec_l1Cur c) 1 = gi c 1 from rfl]
  by_cases hc : gi c 1 < (((gl c 0).length : Nat) : Int)
  · rw [decide_eq_true hc, show idxOk (gi c 1) (gl c 0).length = true from by simp [idxOk]; omega]
    simp only [cond_true]
    refine ⟨_, _, rfl, ⟨h1, ?_, ?_⟩, (bAnd_le _ (by decide) (by decide)).1, (bAnd_le _ (by decide) (by decide)).2, rfl⟩
    · show 0 ≤ IntKind.i64.wrap (gi c 1 + 1)
      rw [wr64' (by omega) (by omega)]; omega
    · show IntKind.i64.wrap (gi c 1 + 1) ≤ _
      rw [wr64' (by omega) (by omega)]; show gi c 1 + 1 ≤ (((gl c 0).length : Nat) : Int); omega
  · rw [decide_eq_false hc]
    simp only [cond_false]
    exact ⟨_, _, rfl, ⟨h1, h2, h3⟩, (bAnd_le _ (by decide) (by decide)).1, (bAnd_le _ (by decide) (by decide)).2, rfl⟩
theorem tmod_lt {x n : Int} (hx : 0 ≤ x) (hn : 0 < n) : 0 ≤ x.tmod n ∧ x.tmod n < n := by
  rw [Int.tmod_eq_emod_of_nonneg hx]
  exact ⟨Int.emod_nonneg _ (by omega), Int.emod_lt_of_pos _ hn⟩
theorem below_ok {c : V} (h : CurOk c) {n : Int} (hn : 0 < n) : ∃ x c', spec_l1Below (n_spec_l1Cur c) n = some (x, c') ∧ CurOk c' ∧ 0 ≤ x ∧ x < n := by
  unfold spec_l1Below
  rw [decide_eq_false (p := n ≤ 0) (by omega), decide_eq_false (p := n = 0) (by omega)]
  simp only [cond_false, show n_spec_l1Cur (n_spec_l1Cur c) = n_spec_l1Cur c from rfl]
  obtain ⟨x, c', e, h', x0, x1, -⟩ := byte_ok h
  by_cases h2 : n ≤ 256
  · rw [decide_eq_true h2, e]
    exact ⟨_, _, rfl, h', (tmod_lt x0 hn).1, (tmod_lt x0 hn).2⟩
  · rw [decide_eq_false h2, e]
    obtain ⟨x2, c2, e2, h2', y0, y1, -⟩ := byte_ok h'
    obtain ⟨x3, c3, e3, h3', z0', z1, -⟩ := byte_ok h2'
    obtain ⟨x4, c4, e4, h4', w0, w1, -⟩ := byte_ok h3'
    simp only [Option.bind_some, e2, e3, e4, cond_false, Bool.not_false, cond_true]
    have hs : IntKind.i64.wrap (IntKind.i64.wrap (IntKind.i64.wrap (IntKind.i64.wrap (x * 16777216) + IntKind.i64.wrap (x2 * 65536)) + IntKind.i64.wrap (x3 * 256)) + x4) = x * 16777216 + x2 * 65536 + x3 * 256 + x4 := by
      rw [wr64' (n := x * 16777216) (by omega) (by omega), wr64' (n := x2 * 65536) (by omega) (by omega), wr64' (n := x3 * 256) (by omega) (by omega), wr64' (n := x * 16777216 + x2 * 65536) (by omega) (by omega), wr64' (n := x * 16777216 + x2 * 65536 + x3 * 256) (by omega) (by omega), wr64' (by omega) (by omega)]
    rw [hs]
    have hm := tmod_lt (x := x * 16777216 + x2 * 65536 + x3 * 256 + x4) (by omega) hn
    exact ⟨_, _, rfl, h4', hm.1, hm.2⟩
theorem pick_ok {c : V} (h : CurOk c) {l : List V} (hl : 0 < l.length) : ∃ j c', spec_l1PickInt (n_spec_l1Cur c) l = some (gi (rd l j) 0, c') ∧ CurOk c' ∧ j < l.length := by
  obtain ⟨x, c', e, h', x0, x1⟩ := below_ok h (n := ((l.length : Nat) : Int)) (by omega)
  unfold spec_l1PickInt
  rw [show n_spec_l1Cur (n_spec_l1Cur c) = n_spec_l1Cur c from rfl, e]
  simp only [Option.bind_some]
  rw [show idxOk x l.length = true from by simp [idxOk]; omega]
  exact ⟨x.toNat, _, rfl, h', by omega⟩
theorem new_ok {code : List V} (h : LW W_byte code) : ∃ c, spec_l1New code = some c ∧ CurOk c := by
  unfold spec_l1New
  rw [fuel_eq]
  have key := loop_run0 (F := fun m s i => spec_l1New_l3 m code s i) (n := code.length) (I := fun _ _ => True) (Q := fun r => ∃ s, r = some (code, s)) ?_ ?_ (s := IntKind.i64.wrap (36565 + ((code.length : Nat) : Int))) trivial
  · obtain ⟨s, e⟩ := key
    refine ⟨_, congrArg (fun o => Option.bind o _) e, h, by show (0 : Int) ≤ 0; decide, by show (0 : Int) ≤ ((code.length : Nat) : Int); omega⟩
  · intro m i s hi _
    simp only [spec_l1New_l3, lt_nat hi, idxOk_nat hi, cond_true, wr_succ hi h.1]
    by_cases h4 : (i : Int) < 4000
    · rw [decide_eq_true h4]; exact .inl ⟨_, rfl, trivial⟩
    · rw [decide_eq_false h4]; exact .inr ⟨_, rfl⟩
  · intro m s _
    simp only [spec_l1New_l3, lt_self, cond_false]
    exact ⟨_, rfl⟩
theorem tmod_O {x n : Int} (h0 : 0 ≤ x) (h1 : 0 < n) : 0 ≤ x.tmod n ∧ x.tmod n ≤ x ∧ x.tmod n < n := by
  have := tmod_lt h0 h1
  refine ⟨this.1, ?_, this.2⟩
  rw [Int.tmod_eq_emod_of_nonneg h0]
  have h2 := Int.mul_ediv_add_emod x n
  have h3 : 0 ≤ n * (x / n) := Int.mul_nonneg (by omega) (Int.ediv_nonneg h0 (by omega))
  omega
theorem below_O {c : V} (h : CurOk c) (n : Int) : Ok (fun r => CurOk r.2 ∧ 0 ≤ r.1 ∧ r.1 ≤ 4294967295 ∧ (r.1 < n ∨ r.1 = 0)) (spec_l1Below (n_spec_l1Cur c) n) := by
  by_cases hn : 0 < n
  · unfold spec_l1Below
    rw [decide_eq_false (p := n ≤ 0) (by omega), decide_eq_false (p := n = 0) (by omega)]
    simp only [cond_false, show n_spec_l1Cur (n_spec_l1Cur c) = n_spec_l1Cur c from rfl]
    obtain ⟨x, c', e, h', x0, x1, -⟩ := byte_ok h
    by_cases h2 : n ≤ 256
    · rw [decide_eq_true h2, e]
      obtain ⟨m0, m1, m2⟩ := tmod_O x0 hn
      exact ⟨_, rfl, h', m0, by show x.tmod n ≤ _; omega, .inl m2⟩
    · rw [decide_eq_false h2, e]
      obtain ⟨x2, c2, e2, h2', y0, y1, -⟩ := byte_ok h'
      obtain ⟨x3, c3, e3, h3', z0', z1, -⟩ := byte_ok h2'
      obtain ⟨x4, c4, e4, h4', w0, w1, -⟩ := byte_ok h3'
      simp only [Option.bind_some, e2, e3, e4, cond_false, Bool.not_false, cond_true]
      have hs : IntKind.i64.wrap (IntKind.i64.wrap (IntKind.i64.wrap (IntKind.i64.wrap (x * 16777216) + IntKind.i64.wrap (x2 * 65536)) + IntKind.i64.wrap (x3 * 256)) + x4) = x * 16777216 + x2 * 65536 + x3 * 256 + x4 := by
        rw [wr64' (n := x * 16777216) (by omega) (by omega), wr64' (n := x2 * 65536) (by omega) (by omega), wr64' (n := x3 * 256) (by omega) (by omega), wr64' (n := x * 16777216 + x2 * 65536) (by omega) (by omega), wr64' (n := x * 16777216 + x2 * 65536 + x3 * 256) (by omega) (by omega), wr64' (by omega) (by omega)]
      rw [hs]
      obtain ⟨m0, m1, m2⟩ := tmod_O (x := x * 16777216 + x2 * 65536 + x3 * 256 + x4) (by omega) hn
      exact ⟨_, rfl, h4', m0, by show Int.tmod _ n ≤ _; omega, .inl m2⟩
  · unfold spec_l1Below
    rw [decide_eq_true (p := n ≤ 0) (by omega)]
    exact ⟨_, rfl, h, by show (0 : Int) ≤ 0; omega, by show (0 : Int) ≤ 4294967295; omega, .inr rfl⟩
theorem once_O {c : V} (h : CurOk c) (n : Int) : Ok (fun r => CurOk r.2) (spec_l1Once (n_spec_l1Cur c) n) := by
  obtain ⟨x, e, h', -⟩ := below_O h n
  unfold spec_l1Once
  rw [show n_spec_l1Cur (n_spec_l1Cur c) = n_spec_l1Cur c from rfl, e]
  exact ⟨_, rfl, h'⟩
theorem pick_O {c : V} (h : CurOk c) {l : List V} (hl : 0 < l.length) (ha : allI l) : Ok (fun r => CurOk r.2 ∧ I64 r.1) (spec_l1PickInt (n_spec_l1Cur c) l) := by
  obtain ⟨j, c', e, h1, h2⟩ := pick_ok h hl
  exact ⟨_, e, h1, allI_rd ha j h2⟩
theorem new_O {code : List V} (h : LW W_byte code) : Ok CurOk (spec_l1New code) := by
  obtain ⟨c, e, h1⟩ := new_ok h
  exact ⟨_, e, h1⟩
theorem nn_cur (c : V) : n_spec_l1Cur (n_spec_l1Cur c) = n_spec_l1Cur c := rfl
theorem below_P {c : V} (h : CurOk c) (n : Int) : Ok2 (fun x c => CurOk c ∧ 0 ≤ x ∧ x ≤ 4294967295 ∧ (x < n ∨ x = 0)) (spec_l1Below (n_spec_l1Cur c) n) := .of (below_O h n)
theorem once_P {c : V} (h : CurOk c) (n : Int) : Ok2 (fun (x : Bool) c => CurOk c) (spec_l1Once (n_spec_l1Cur c) n) := .of (once_O h n)
theorem pick_P {c : V} (h : CurOk c) {l : List V} (hl : 0 < l.length) (ha : allI l) : Ok2 (fun x c => CurOk c ∧ I64 x) (spec_l1PickInt (n_spec_l1Cur c) l) := .of (pick_O h hl ha)
end Go.Eng.R
open Go Go.Eng
namespace Go.Eng.R
set_option maxRecDepth 100000
def BS (l : List V) : Prop := LW W_byte l ∧ l.length ≤ 20
def bsB (l : List V) : Bool := l.all (fun x => decide (0 ≤ gi x 0 ∧ gi x 0 ≤ 255)) && decide (l.length ≤ 20)
theorem bsB_spec {l : List V} (h : bsB l = true) : BS l := by
  unfold bsB at h
  simp only [Bool.and_eq_true, List.all_eq_true, decide_eq_true_eq] at h
  exact ⟨⟨by omega, fun x hx => h.1 x hx⟩, h.2⟩
theorem BS.nil : BS [] := bsB_spec rfl
def bsAll (l : List V) : Bool := l.all fun x => bsB (gs x 0)
theorem bsAll_rd {l : List V} (h : bsAll l = true) {j : Nat} (hj : j < l.length) : BS (gs (rd l j) 0) := by
  unfold bsAll at h
  rw [List.all_eq_true] at h
  refine bsB_spec (h _ ?_)
  rw [rd_eq hj]; exact List.getElem_mem hj
theorem drawVal_O {c : V} (h : CurOk c) : Ok2 (fun x c => CurOk c ∧ BS x) (spec_l2drawVal (n_spec_l1Cur c)) := by
  unfold spec_l2drawVal
  refine .of ?_
  have h' : CurOk (n_spec_l1Cur c) := h
  ((repeat' (((with_reducible refine (id ?_ : Ok _ _)); first | (with_reducible refine Ok.chk (by (first | (refine idx_of ?_ ?_ <;> (try simp only) <;> omega) | (refine room_of ?_ ?_ <;> (try simp only [List.length_set, List.length_append, List.length_cons, List.length_nil, List.length_replicate, Nat.zero_add]) <;> omega) | assumption | (simp; done) | (simp; omega))) ?_) | ((with_reducible refine Ok.iteT ?_ ?_); (next => first | exact decide_eq_true (by with_reducible rfl) | (refine congrArg not (decide_eq_false ?_); intro h; revert h; dsimp only; decide))) | ((with_reducible refine Ok.iteF ?_ ?_); (next => first | (refine decide_eq_false ?_; intro h; revert h; dsimp only; decide) | exact congrArg not (decide_eq_true (by with_reducible rfl)))) | (with_reducible refine Ok.ite (fun _ => ?_) (fun _ => ?_) <;> (rename_i h; try simp only [decide_eq_true_eq, decide_eq_false_iff_not, Bool.not_eq_true', Bool.not_eq_false', Int.not_lt, Int.not_le] at h)) | (((with_reducible refine Ok.bind2 (below_P (by assumption) _) ?_); rintro _ _ ⟨_, _, _, _⟩)) | with_reducible refine Ok.ret ?_))))
  exact ⟨by assumption, bsAll_rd rfl (by simp; omega)⟩
theorem drawKey_O {c : V} (h : CurOk c) : Ok2 (fun x c => CurOk c ∧ BS x) (spec_l2drawKey (n_spec_l1Cur c)) := by
  unfold spec_l2drawKey
  refine .of ?_
  have h' : CurOk (n_spec_l1Cur c) := h
  ((repeat' (((with_reducible refine (id ?_ : Ok _ _)); first | (with_reducible refine Ok.chk (by (first | (refine idx_of ?_ ?_ <;> (try simp only) <;> omega) | (refine room_of ?_ ?_ <;> (try simp only [List.length_set, List.length_append, List.length_cons, List.length_nil, List.length_replicate, Nat.zero_add]) <;> omega) | assumption | (simp; done) | (simp; omega))) ?_) | ((with_reducible refine Ok.iteT ?_ ?_); (next => first | exact decide_eq_true (by with_reducible rfl) | (refine congrArg not (decide_eq_false ?_); intro h; revert h; dsimp only; decide))) | ((with_reducible refine Ok.iteF ?_ ?_); (next => first | (refine decide_eq_false ?_; intro h; revert h; dsimp only; decide) | exact congrArg not (decide_eq_true (by with_reducible rfl)))) | (with_reducible refine Ok.ite (fun _ => ?_) (fun _ => ?_) <;> (rename_i h; try simp only [decide_eq_true_eq, decide_eq_false_iff_not, Bool.not_eq_true', Bool.not_eq_false', Int.not_lt, Int.not_le] at h)) | (((with_reducible refine Ok.bind2 (below_P (by assumption) _) ?_); rintro _ _ ⟨_, _, _, _⟩)) | with_reducible refine Ok.ret ?_))))
  exact ⟨by assumption, bsAll_rd rfl (by simp; omega)⟩
def B_Op (x : V) : Prop := I64 (gi x 0) ∧ BS (gl x 1) ∧ BS (gl x 2) ∧ I64 (gi x 3)
theorem op_O {c : V} (h : CurOk c) (i : Int) : Ok2 (fun x c => CurOk c ∧ B_Op x) (spec_l2op (n_spec_l1Cur c) i) := by
  unfold spec_l2op
  refine .of ?_
  obtain ⟨j, c', e, h1, hj⟩ := pick_ok h (l := [(V.int .i64 1), (V.int .i64 1), (V.int .i64 1), (V.int .i64 2), (V.int .i64 3), (V.int .i64 3), (V.int .i64 4), (V.int .i64 5), (V.int .i64 6), (V.int .i64 6), (V.int .i64 7), (V.int .i64 0)]) (by decide)
  have hv : gi (rd [(V.int .i64 1), (V.int .i64 1), (V.int .i64 1), (V.int .i64 2), (V.int .i64 3), (V.int .i64 3), (V.int .i64 4), (V.int .i64 5), (V.int .i64 6), (V.int .i64 6), (V.int .i64 7), (V.int .i64 0)] j) 0 ∈ [(0 : Int), 1, 2, 3, 4, 5, 6, 7] := by
    have hj' : j ∈ List.range 12 := List.mem_range.2 hj
    revert j
    intro j _ _ hj
    have key : ∀ j ∈ List.range 12, gi (rd [(V.int .i64 1), (V.int .i64 1), (V.int .i64 1), (V.int .i64 2), (V.int .i64 3), (V.int .i64 3), (V.int .i64 4), (V.int .i64 5), (V.int .i64 6), (V.int .i64 6), (V.int .i64 7), (V.int .i64 0)] j) 0 ∈ [(0 : Int), 1, 2, 3, 4, 5, 6, 7] := by decide
    exact key j hj
  rw [nn_cur, e]
  refine Ok.bind2 (Q := fun a b => a = gi (rd [(V.int .i64 1), (V.int .i64 1), (V.int .i64 1), (V.int .i64 2), (V.int .i64 3), (V.int .i64 3), (V.int .i64 4), (V.int .i64 5), (V.int .i64 6), (V.int .i64 6), (V.int .i64 7), (V.int .i64 0)] j) 0 ∧ b = c') ⟨_, _, rfl, rfl, rfl⟩ ?_
  rintro a b ⟨ha, rfl⟩
  rw [← ha] at hv
  clear ha e
  simp only [List.mem_cons, List.not_mem_nil, or_false] at hv
  rcases hv with rfl | rfl | rfl | rfl | rfl | rfl | rfl | rfl
  all_goals ((repeat' (((with_reducible refine (id ?_ : Ok _ _)); first | (with_reducible refine Ok.chk (by (first | (refine idx_of ?_ ?_ <;> (try simp only [List.length_set, List.length_append, List.length_cons, List.length_nil, List.length_replicate, Nat.zero_add]) <;> omega) | (refine room_of ?_ ?_ <;> (try simp only [List.length_set, List.length_append, List.length_cons, List.length_nil, List.length_replicate, Nat.zero_add]) <;> omega) | assumption | (simp; done) | (simp; omega))) ?_) | ((with_reducible refine Ok.iteT ?_ ?_); (next => first | exact decide_eq_true (by with_reducible rfl) | (refine congrArg not (decide_eq_false ?_); intro h; revert h; dsimp only; decide))) | ((with_reducible refine Ok.iteF ?_ ?_); (next => first | (refine decide_eq_false ?_; intro h; revert h; dsimp only; decide) | exact congrArg not (decide_eq_true (by with_reducible rfl)))) | (with_reducible refine Ok.ite (fun _ => ?_) (fun _ => ?_) <;> (rename_i h; try simp only [decide_eq_true_eq, decide_eq_false_iff_not, Int.not_lt] at h)) | (first | (((with_reducible refine Ok.bind2 (drawKey_O (by assumption)) ?_); rintro _ _ ⟨_, _⟩)) | (((with_reducible refine Ok.bind2 (drawVal_O (by assumption)) ?_); rintro _ _ ⟨_, _⟩)) | (((with_reducible refine Ok.bind2 (pick_P (by assumption) ?_ ?_) ?_); (next => exact Nat.succ_pos _); (next => repeat' (first | trivial | ((repeat' (first | dsimp only [gi_c0, gi_cs, gl_c0, gl_cs, gi_v0] | with_reducible assumption | with_reducible exact wrI _ | (unfold I64; constructor <;> omega) | omega | (simp only [List.length_set, List.length_append, List.length_cons, List.length_nil, List.length_take, List.length_drop]; omega) | with_reducible refine LW.set' ?_ _ ?_ | with_reducible refine LW.snoc ?_ ?_ ?_ | with_reducible refine LW.takeL ?_ _ | with_reducible refine LW.dropL ?_ _ | with_reducible refine W_int.mk ?_ | assumption)); done) | refine And.intro ?_ ?_)); rintro _ _ ⟨_, _⟩)) | (((with_reducible refine Ok.bind2 (below_P (by assumption) _) ?_); rintro _ _ ⟨_, _, _, _⟩))) | with_reducible refine Ok.ret ?_))))
  all_goals (refine ⟨by assumption, ?_, ?_, ?_, ?_⟩ <;> (try dsimp only [gi_c0, gi_cs, gl_c0, gl_cs]) <;> first | with_reducible assumption | with_reducible exact wrI _ | with_reducible exact BS.nil | ((unfold I64; constructor <;> omega)) | assumption)
def B_Item (x : V) : Prop := I64 (gi x 0) ∧ I64 (gi x 1) ∧ I64 (gi x 2) ∧ I64 (gi x 3) ∧ BS (gl x 4) ∧ BS (gl x 5) ∧ I64 (gi x 6)
theorem drawItem_O {c : V} (h : CurOk c) {t : Int} (ht : I64 t) : Ok2 (fun x c => CurOk c ∧ B_Item x) (spec_l3drawItem (n_spec_l1Cur c) t) := by
  unfold spec_l3drawItem
  refine .of ?_
  have h' : CurOk (n_spec_l1Cur c) := h
  ((repeat' (((with_reducible refine (id ?_ : Ok _ _)); first | (with_reducible refine Ok.chk (by (first | (refine idx_of ?_ ?_ <;> (try simp only [List.length_set, List.length_append, List.length_cons, List.length_nil, List.length_replicate, Nat.zero_add]) <;> omega) | (refine room_of ?_ ?_ <;> (try simp only [List.length_set, List.length_append, List.length_cons, List.length_nil, List.length_replicate, Nat.zero_add]) <;> omega) | assumption | (simp; done) | (simp; omega))) ?_) | ((with_reducible refine Ok.iteT ?_ ?_); (next => first | exact decide_eq_true (by with_reducible rfl) | (refine congrArg not (decide_eq_false ?_); intro h; revert h; dsimp only; decide))) | ((with_reducible refine Ok.iteF ?_ ?_); (next => first | (refine decide_eq_false ?_; intro h; revert h; dsimp only; decide) | exact congrArg not (decide_eq_true (by with_reducible rfl)))) | (with_reducible refine Ok.ite (fun _ => ?_) (fun _ => ?_) <;> (rename_i h; try simp only at h)) | (first | (((with_reducible refine Ok.bind2 (op_O (by assumption) _) ?_); rintro _ _ ⟨_, _, _, _, _⟩)) | (((with_reducible refine Ok.bind2 (once_P (by assumption) _) ?_); rintro _ _ _)) | (((with_reducible refine Ok.bind2 (below_P (by assumption) _) ?_); rintro _ _ ⟨_, _, _, _⟩))) | with_reducible refine Ok.ret ?_))))
  all_goals (refine ⟨by assumption, ?_, ?_, ?_, ?_, ?_, ?_, ?_⟩ <;> (try dsimp only [gi_c0, gi_cs, gl_c0, gl_cs]) <;> first | with_reducible assumption | with_reducible exact wrI _ | with_reducible exact BS.nil | ((unfold I64; constructor <;> omega)) | assumption)
theorem drawLog_O {c : V} (h : CurOk c) {n : Int} (h0 : 0 ≤ n) (h1 : n ≤ 20) : Ok2 (fun x c => CurOk c ∧ LW B_Item x ∧ x.length ≤ 20) (spec_l3drawLog (n_spec_l1Cur c) n) := by
  have key : ∀ (k : Nat) (t i : Int) (b : V) (l : List V), CurOk b → LW B_Item l → I64 t → 0 ≤ i → (l.length : Int) = i → i ≤ n → (n - i).toNat < k →
      Ok2 (fun c x => CurOk c ∧ LW B_Item x ∧ x.length ≤ 20) (spec_l3drawLog_l4 k n t i (n_spec_l1Cur b) l) := by
    intro k
    induction k with
    | zero => intros; omega
    | succ k ih =>
      intro t i b l hb hl ht hi hli hin hk
      simp only [spec_l3drawLog_l4]
      refine .of ?_
      have hb' : CurOk (n_spec_l1Cur b) := hb
      ((repeat' (((with_reducible refine (id ?_ : Ok _ _)); first | (with_reducible refine Ok.chk (by (first | (refine idx_of ?_ ?_ <;> (try simp only [List.length_set, List.length_append, List.length_cons, List.length_nil, List.length_replicate, Nat.zero_add]) <;> omega) | (refine room_of ?_ ?_ <;> (try simp only [List.length_set, List.length_append, List.length_cons, List.length_nil, List.length_replicate, Nat.zero_add]) <;> omega) | assumption | (simp; done) | (simp; omega))) ?_) | ((with_reducible refine Ok.iteT ?_ ?_); (next => first | exact decide_eq_true (by with_reducible rfl) | (refine congrArg not (decide_eq_false ?_); intro h; revert h; dsimp only; decide))) | ((with_reducible refine Ok.iteF ?_ ?_); (next => first | (refine decide_eq_false ?_; intro h; revert h; dsimp only; decide) | exact congrArg not (decide_eq_true (by with_reducible rfl)))) | (with_reducible refine Ok.ite (fun _ => ?_) (fun _ => ?_) <;> (rename_i h; try simp only [decide_eq_true_eq, decide_eq_false_iff_not, Int.not_lt] at h)) | (first | (((with_reducible refine Ok.bind2 (drawItem_O (by assumption) ?_) ?_); (next => first | assumption | with_reducible exact wrI _ | ((unfold I64; constructor <;> omega))); rintro _ _ ⟨_, _⟩)) | (((with_reducible refine Ok.bind2 (below_P (by assumption) _) ?_); rintro _ _ ⟨_, _, _, _⟩))) | with_reducible refine Ok.ret ?_))))
      · refine (ih _ _ _ _ (by assumption) (LW.snoc hl (by omega) (by assumption)) (wrI _) ?_ ?_ ?_ ?_).ok <;> (rw [wr64' (n := i + 1) (by omega) (by omega)]; try simp only [List.length_append, List.length_cons, List.length_nil]) <;> omega
      · exact ⟨hb, hl, by show l.length ≤ 20; omega⟩
  unfold spec_l3drawLog
  refine .of (Ok.bind2 (key ((n - 0).toNat + 1) 1 0 c [] h LW.nil ⟨by decide, by decide⟩ (by decide) rfl h0 (by omega)) ?_)
  rintro _ _ ⟨_, _, _⟩
  exact Ok.ret ⟨by assumption, by assumption, by assumption⟩
end Go.Eng.R
open Go Go.Eng
namespace Go.Eng.R
set_option maxRecDepth 100000
theorem count_O {c : V} (h : CurOk c) : Ok2 (fun x c => CurOk c ∧ 1 ≤ x ∧ x ≤ 5) (spec_l4count (n_spec_l1Cur c)) := by
  unfold spec_l4count
  obtain ⟨j, c', e, h1, hj⟩ := pick_ok h (l := [(V.int .i64 1), (V.int .i64 2), (V.int .i64 3), (V.int .i64 3), (V.int .i64 3), (V.int .i64 5)]) (by decide)
  rw [nn_cur, e]
  have key : ∀ j ∈ List.range 6, 1 ≤ gi (rd [(V.int .i64 1), (V.int .i64 2), (V.int .i64 3), (V.int .i64 3), (V.int .i64 3), (V.int .i64 5)] j) 0 ∧ gi (rd [(V.int .i64 1), (V.int .i64 2), (V.int .i64 3), (V.int .i64 3), (V.int .i64 3), (V.int .i64 5)] j) 0 ≤ 5 := by decide
  have := key j (List.mem_range.2 hj)
  exact ⟨_, _, rfl, h1, this.1, this.2⟩
def IsNew (id servers : Int) (n : V) : Prop := gi n 0 = id ∧ gi n 5 = 0 ∧ ((gl n 8).length : Int) = servers ∧ LW W_int (gl n 9) ∧ ((gl n 9).length : Int) = servers ∧ LW W_int (gl n 10) ∧ ((gl n 10).length : Int) = servers
theorem newN_O (id : Int) {servers : Int} (h0 : 1 ≤ servers) (h1 : servers ≤ 5) : Ok (IsNew id servers) (spec_l4new id servers) := by
  unfold spec_l4new
  rw [decide_eq_true (p := (0 : Int) ≤ servers) (by omega), decide_eq_true (p := servers = servers) rfl, roomy_of (n := servers.toNat) (b := 1) (by omega) (by omega), roomy_of (n := servers.toNat) (b := 8) (by omega) (by omega)]
  have hz : LW W_int (List.replicate servers.toNat (V.int .i64 0)) := LW.rep (by omega) (⟨by decide, by decide⟩ : I64 0)
  have hl : ∀ x : V, ((List.replicate servers.toNat x).length : Int) = servers := fun x => by rw [List.length_replicate]; omega
  exact ⟨_, rfl, rfl, rfl, hl _, hz, hl _, hz, hl _⟩
def B_Node (m : Nat) (n : V) : Prop := I64 (gi n 0) ∧ I64 (gi n 1) ∧ I64 (gi n 2) ∧ LW B_Item (gl n 3) ∧ (gl n 3).length ≤ 396 + m ∧ I64 (gi n 4) ∧ I64 (gi n 5) ∧ I64 (gi n 6) ∧ I64 (gi n 7) ∧ (gl n 8).length ≤ m ∧ LW W_int (gl n 9) ∧ (gl n 9).length ≤ m ∧ LW W_int (gl n 10) ∧ (gl n 10).length ≤ m
theorem termAt_O {n : V} (hl : LW B_Item (gl n 3)) (p : Int) : Ok I64 (spec_l4termAt n p) := by
  unfold spec_l4termAt
  by_cases h1 : p < 1
  · rw [decide_eq_true h1]; exact ⟨_, rfl, by ((unfold I64; constructor <;> omega))⟩
  by_cases h2 : (((gl n 3).length : Nat) : Int) < p
  · rw [decide_eq_false h1, decide_eq_true h2]; exact ⟨_, rfl, by ((unfold I64; constructor <;> omega))⟩
  have hl1 := hl.1
  rw [decide_eq_false h1, decide_eq_false h2, wr64' (n := p - 1) (by omega) (by omega), idx_of (i := p - 1) (by omega) (by omega)]
  exact ⟨_, rfl, (LW.rd hl (i := (p - 1).toNat) (by omega)).1⟩
theorem node_loop {servers k6 : Int} (hs0 : 1 ≤ servers) (hs1 : servers ≤ 5) (r3 : List V) (r4 r5 r6 r7 r8 : List V) (w7 : LW B_Item r7) (l7 : r7.length ≤ 401) (l8 : r8.length ≤ 5) : ∀ (k : Nat) (i : Int) (b b1 b2 : V) (r9 r10 : List V), CurOk b → 0 ≤ i → i ≤ servers → (servers - i).toNat < k →
    LW W_int r9 → (r9.length : Int) = servers → LW W_int r10 → (r10.length : Int) = servers → I64 (gi b2 0) → I64 (gi b2 1) → I64 (gi b2 2) → I64 (gi b2 4) → I64 (gi b2 5) → I64 (gi b2 6) → I64 (gi b2 7) →
    Ok (fun r => CurOk r.1 ∧ I64 (gi r.2.2.1 0) ∧ I64 (gi r.2.2.1 1) ∧ I64 (gi r.2.2.1 2) ∧ I64 (gi r.2.2.1 4) ∧ I64 (gi r.2.2.1 5) ∧ I64 (gi r.2.2.1 6) ∧ I64 (gi r.2.2.1 7) ∧ LW B_Item r.2.2.2.2.2.2.2.1 ∧ r.2.2.2.2.2.2.2.1.length ≤ 401 ∧ r.2.2.2.2.2.2.2.2.1.length ≤ 5 ∧ LW W_int r.2.2.2.2.2.2.2.2.2.1 ∧ r.2.2.2.2.2.2.2.2.2.1.length ≤ 5 ∧ LW W_int r.2.2.2.2.2.2.2.2.2.2 ∧ r.2.2.2.2.2.2.2.2.2.2.length ≤ 5 ∧ 1 ≤ r.2.2.2.2.2.2.2.2.2.1.length ∧ 1 ≤ r.2.2.2.2.2.2.2.2.2.2.length)
      (spec_l4node_l26 k servers k6 i (n_spec_l1Cur b) b1 b2 r3 r4 r5 r6 r7 r8 r9 r10)
  | 0, _, _, _, _, _, _, _, _, _, h, _, _, _, _, _, _, _, _, _, _, _ => by omega
  | k + 1, i, b, b1, b2, r9, r10, hb, i0, i1, hk, w9, l9, w10, l10, p0, p1, p2, p4, p5, p6, p7 => by
    have hb' : CurOk (n_spec_l1Cur b) := hb
    have hw : i < servers → IntKind.i64.wrap (i + 1) = i + 1 := fun _ => wr64' (by omega) (by omega)
    unfold spec_l4node_l26
    ((repeat' (((with_reducible refine (id ?_ : Ok _ _)); first | (with_reducible refine Ok.chk (by (first | (refine idx_of ?_ ?_ <;> (try simp only [List.length_set, Nat.zero_add]) <;> omega) | (refine room_of ?_ ?_ <;> (try simp only [List.length_set, List.length_append, List.length_cons, List.length_nil, List.length_replicate, Nat.zero_add]) <;> omega) | assumption | (simp; done) | (simp; omega))) ?_) | ((with_reducible refine Ok.iteT ?_ ?_); (next => first | exact decide_eq_true (by with_reducible rfl) | (refine congrArg not (decide_eq_false ?_); intro h; revert h; dsimp only; decide))) | ((with_reducible refine Ok.iteF ?_ ?_); (next => first | (refine decide_eq_false ?_; intro h; revert h; dsimp only; decide) | exact congrArg not (decide_eq_true (by with_reducible rfl)))) | (with_reducible refine Ok.ite (fun _ => ?_) (fun _ => ?_) <;> (rename_i h; try simp only [decide_eq_true_eq, decide_eq_false_iff_not, Int.not_lt] at h)) | (first | (((with_reducible refine Ok.bind2 (once_P (by assumption) _) ?_); rintro _ _ _)) | (((with_reducible refine Ok.bind2 (below_P (by assumption) _) ?_); rintro _ _ ⟨_, _, _, _⟩))) | with_reducible refine Ok.ret ?_))))
    · refine node_loop hs0 hs1 _ _ _ _ _ _ w7 l7 l8 k _ _ _ _ _ _ (by assumption) ?_ ?_ ?_ (LW.set' (LW.set' w9 _ (W_int.mk (wrI _))) _ (W_int.mk (wrI _))) (by simpa using l9) (LW.set' w10 _ ?_) (by simpa using l10) p0 p1 p2 p4 p5 p6 p7
      · rw [hw (by assumption)]; omega
      · rw [hw (by assumption)]; omega
      · rw [hw (by assumption)]; omega
      · refine W_int.mk ?_; dsimp only; ((unfold I64; constructor <;> omega))
    · refine node_loop hs0 hs1 _ _ _ _ _ _ w7 l7 l8 k _ _ _ _ _ _ (by assumption) ?_ ?_ ?_ (LW.set' w9 _ (W_int.mk (wrI _))) (by simpa using l9) (LW.set' w10 _ ?_) (by simpa using l10) p0 p1 p2 p4 p5 p6 p7
      · rw [hw (by assumption)]; omega
      · rw [hw (by assumption)]; omega
      · rw [hw (by assumption)]; omega
      · refine W_int.mk ?_; dsimp only; ((unfold I64; constructor <;> omega))
    · exact ⟨hb, p0, p1, p2, p4, p5, p6, p7, w7, l7, l8, w9, by show r9.length ≤ 5; omega, w10, by show r10.length ≤ 5; omega, by show 1 ≤ r9.length; omega, by show 1 ≤ r10.length; omega⟩
set_option maxHeartbeats 2000000 in
theorem node_O {c : V} (h : CurOk c) {servers : Int} (hs0 : 1 ≤ servers) (hs1 : servers ≤ 5) : Ok2 (fun n c => CurOk c ∧ B_Node 5 n ∧ 1 ≤ (gl n 9).length ∧ 1 ≤ (gl n 10).length) (spec_l4node (n_spec_l1Cur c) servers) := by
  unfold spec_l4node
  refine .of ?_
  have h' : CurOk (n_spec_l1Cur c) := h
  have hls : IntKind.i64.wrap (servers + 1) = servers + 1 := wr64' (by omega) (by omega)
  ((repeat' (((with_reducible refine (id ?_ : Ok _ _)); first | (with_reducible refine Ok.chk (by (first | (refine idx_of ?_ ?_ <;> (try simp only [List.length_set, Nat.zero_add]) <;> omega) | (refine room_of ?_ ?_ <;> (try simp only [List.length_set, List.length_append, List.length_cons, List.length_nil, List.length_replicate, Nat.zero_add]) <;> omega) | assumption | (simp; done) | (simp; omega))) ?_) | ((with_reducible refine Ok.iteT ?_ ?_); (next => first | exact decide_eq_true (by with_reducible rfl) | (refine congrArg not (decide_eq_false ?_); intro h; revert h; dsimp only; decide))) | ((with_reducible refine Ok.iteF ?_ ?_); (next => first | (refine decide_eq_false ?_; intro h; revert h; dsimp only; decide) | exact congrArg not (decide_eq_true (by with_reducible rfl)))) | (with_reducible refine Ok.ite (fun _ => ?_) (fun _ => ?_) <;> (rename_i h; try simp only [decide_eq_true_eq, decide_eq_false_iff_not, Int.not_lt] at h)) | (first | (((with_reducible refine Ok.bind (node_loop (by assumption) (by assumption) _ _ _ _ _ _ ?_ ?_ ?_ _ _ _ _ _ _ _ (by assumption) ?_ ?_ ?_ ?_ ?_ ?_ ?_ ?_ ?_ ?_ ?_ ?_ ?_ ?_) ?_); (next => ((repeat' (first | dsimp only [gi_c0, gi_cs, gl_c0, gl_cs, gi_v0] | with_reducible assumption | with_reducible exact wrI _ | (unfold I64; constructor <;> omega) | omega | (simp only [List.length_set, List.length_append, List.length_cons, List.length_nil, List.length_take, List.length_drop]; omega) | with_reducible refine LW.set' ?_ _ ?_ | with_reducible refine LW.snoc ?_ ?_ ?_ | with_reducible refine LW.takeL ?_ _ | with_reducible refine LW.dropL ?_ _ | with_reducible refine W_int.mk ?_ | assumption)); done)); (next => ((repeat' (first | dsimp only [gi_c0, gi_cs, gl_c0, gl_cs, gi_v0] | with_reducible assumption | with_reducible exact wrI _ | (unfold I64; constructor <;> omega) | omega | (simp only [List.length_set, List.length_append, List.length_cons, List.length_nil, List.length_take, List.length_drop]; omega) | with_reducible refine LW.set' ?_ _ ?_ | with_reducible refine LW.snoc ?_ ?_ ?_ | with_reducible refine LW.takeL ?_ _ | with_reducible refine LW.dropL ?_ _ | with_reducible refine W_int.mk ?_ | assumption)); done)); (next => ((repeat' (first | dsimp only [gi_c0, gi_cs, gl_c0, gl_cs, gi_v0] | with_reducible assumption | with_reducible exact wrI _ | (unfold I64; constructor <;> omega) | omega | (simp only [List.length_set]; omega) | with_reducible refine LW.set' ?_ _ ?_ | with_reducible refine LW.snoc ?_ ?_ ?_ | with_reducible refine LW.takeL ?_ _ | with_reducible refine LW.dropL ?_ _ | with_reducible refine W_int.mk ?_ | assumption)); done)); (next => ((repeat' (first | dsimp only [gi_c0, gi_cs, gl_c0, gl_cs, gi_v0] | with_reducible assumption | with_reducible exact wrI _ | (unfold I64; constructor <;> omega) | omega | (simp only [List.length_set, List.length_append, List.length_cons, List.length_nil, List.length_take, List.length_drop]; omega) | with_reducible refine LW.set' ?_ _ ?_ | with_reducible refine LW.snoc ?_ ?_ ?_ | with_reducible refine LW.takeL ?_ _ | with_reducible refine LW.dropL ?_ _ | with_reducible refine W_int.mk ?_ | assumption)); done)); (next => ((repeat' (first | dsimp only [gi_c0, gi_cs, gl_c0, gl_cs, gi_v0] | with_reducible assumption | with_reducible exact wrI _ | (unfold I64; constructor <;> omega) | omega | (simp only [List.length_set, List.length_append, List.length_cons, List.length_nil, List.length_take, List.length_drop]; omega) | with_reducible refine LW.set' ?_ _ ?_ | with_reducible refine LW.snoc ?_ ?_ ?_ | with_reducible refine LW.takeL ?_ _ | with_reducible refine LW.dropL ?_ _ | with_reducible refine W_int.mk ?_ | assumption)); done)); (next => ((repeat' (first | dsimp only [gi_c0, gi_cs, gl_c0, gl_cs, gi_v0] | with_reducible assumption | with_reducible exact wrI _ | (unfold I64; constructor <;> omega) | omega | (simp only [List.length_set, List.length_append, List.length_cons, List.length_nil, List.length_take, List.length_drop]; omega) | with_reducible refine LW.set' ?_ _ ?_ | with_reducible refine LW.snoc ?_ ?_ ?_ | with_reducible refine LW.takeL ?_ _ | with_reducible refine LW.dropL ?_ _ | with_reducible refine W_int.mk ?_ | assumption)); done)); (next => ((repeat' (first | dsimp only [gi_c0, gi_cs, gl_c0, gl_cs, gi_v0] | with_reducible assumption | with_reducible exact wrI _ | (unfold I64; constructor <;> omega) | omega | (simp only [List.length_set, List.length_append, List.length_cons, List.length_nil, List.length_take, List.length_drop]; omega) | with_reducible refine LW.set' ?_ _ ?_ | with_reducible refine LW.snoc ?_ ?_ ?_ | with_reducible refine LW.takeL ?_ _ | with_reducible refine LW.dropL ?_ _ | with_reducible refine W_int.mk ?_ | assumption)); done)); (next => ((repeat' (first | dsimp only [gi_c0, gi_cs, gl_c0, gl_cs, gi_v0] | with_reducible assumption | with_reducible exact wrI _ | (unfold I64; constructor <;> omega) | omega | (simp only [List.length_set, List.length_append, List.length_cons, List.length_nil, List.length_take, List.length_drop]; omega) | with_reducible refine LW.set' ?_ _ ?_ | with_reducible refine LW.snoc ?_ ?_ ?_ | with_reducible refine LW.takeL ?_ _ | with_reducible refine LW.dropL ?_ _ | with_reducible refine W_int.mk ?_ | assumption)); done)); (next => ((repeat' (first | dsimp only [gi_c0, gi_cs, gl_c0, gl_cs, gi_v0] | with_reducible assumption | with_reducible exact wrI _ | (unfold I64; constructor <;> omega) | omega | (simp only [List.length_set, List.length_append, List.length_cons, List.length_nil, List.length_take, List.length_drop]; omega) | with_reducible refine LW.set' ?_ _ ?_ | with_reducible refine LW.snoc ?_ ?_ ?_ | with_reducible refine LW.takeL ?_ _ | with_reducible refine LW.dropL ?_ _ | with_reducible refine W_int.mk ?_ | assumption)); done)); (next => ((repeat' (first | dsimp only [gi_c0, gi_cs, gl_c0, gl_cs, gi_v0] | with_reducible assumption | with_reducible exact wrI _ | (unfold I64; constructor <;> omega) | omega | (simp only [List.length_set, List.length_append, List.length_cons, List.length_nil, List.length_take, List.length_drop]; omega) | with_reducible refine LW.set' ?_ _ ?_ | with_reducible refine LW.snoc ?_ ?_ ?_ | with_reducible refine LW.takeL ?_ _ | with_reducible refine LW.dropL ?_ _ | with_reducible refine W_int.mk ?_ | assumption)); done)); (next => ((repeat' (first | dsimp only [gi_c0, gi_cs, gl_c0, gl_cs, gi_v0] | with_reducible assumption | with_reducible exact wrI _ | (unfold I64; constructor <;> omega) | omega | (simp only [List.length_set, List.length_append, List.length_cons, List.length_nil, List.length_take, List.length_drop]; omega) | with_reducible refine LW.set' ?_ _ ?_ | with_reducible refine LW.snoc ?_ ?_ ?_ | with_reducible refine LW.takeL ?_ _ | with_reducible refine LW.dropL ?_ _ | with_reducible refine W_int.mk ?_ | assumption)); done)); (next => ((repeat' (first | dsimp only [gi_c0, gi_cs, gl_c0, gl_cs, gi_v0] | with_reducible assumption | with_reducible exact wrI _ | (unfold I64; constructor <;> omega) | omega | (simp only [List.length_set, List.length_append, List.length_cons, List.length_nil, List.length_take, List.length_drop]; omega) | with_reducible refine LW.set' ?_ _ ?_ | with_reducible refine LW.snoc ?_ ?_ ?_ | with_reducible refine LW.takeL ?_ _ | with_reducible refine LW.dropL ?_ _ | with_reducible refine W_int.mk ?_ | assumption)); done)); (next => ((repeat' (first | dsimp only [gi_c0, gi_cs, gl_c0, gl_cs, gi_v0] | with_reducible assumption | with_reducible exact wrI _ | (unfold I64; constructor <;> omega) | omega | (simp only [List.length_set, List.length_append, List.length_cons, List.length_nil, List.length_take, List.length_drop]; omega) | with_reducible refine LW.set' ?_ _ ?_ | with_reducible refine LW.snoc ?_ ?_ ?_ | with_reducible refine LW.takeL ?_ _ | with_reducible refine LW.dropL ?_ _ | with_reducible refine W_int.mk ?_ | assumption)); done)); (next => ((repeat' (first | dsimp only [gi_c0, gi_cs, gl_c0, gl_cs, gi_v0] | with_reducible assumption | with_reducible exact wrI _ | (unfold I64; constructor <;> omega) | omega | (simp only [List.length_set, List.length_append, List.length_cons, List.length_nil, List.length_take, List.length_drop]; omega) | with_reducible refine LW.set' ?_ _ ?_ | with_reducible refine LW.snoc ?_ ?_ ?_ | with_reducible refine LW.takeL ?_ _ | with_reducible refine LW.dropL ?_ _ | with_reducible refine W_int.mk ?_ | assumption)); done)); (next => ((repeat' (first | dsimp only [gi_c0, gi_cs, gl_c0, gl_cs, gi_v0] | with_reducible assumption | with_reducible exact wrI _ | (unfold I64; constructor <;> omega) | omega | (simp only [List.length_set, List.length_append, List.length_cons, List.length_nil, List.length_take, List.length_drop]; omega) | with_reducible refine LW.set' ?_ _ ?_ | with_reducible refine LW.snoc ?_ ?_ ?_ | with_reducible refine LW.takeL ?_ _ | with_reducible refine LW.dropL ?_ _ | with_reducible refine W_int.mk ?_ | assumption)); done)); (next => ((repeat' (first | dsimp only [gi_c0, gi_cs, gl_c0, gl_cs, gi_v0] | with_reducible assumption | with_reducible exact wrI _ | (unfold I64; constructor <;> omega) | omega | (simp only [List.length_set, List.length_append, List.length_cons, List.length_nil, List.length_take, List.length_drop]; omega) | with_reducible refine LW.set' ?_ _ ?_ | with_reducible refine LW.snoc ?_ ?_ ?_ | with_reducible refine LW.takeL ?_ _ | with_reducible refine LW.dropL ?_ _ | with_reducible refine W_int.mk ?_ | assumption)); done)); (next => ((repeat' (first | dsimp only [gi_c0, gi_cs, gl_c0, gl_cs, gi_v0] | with_reducible assumption | with_reducible exact wrI _ | (unfold I64; constructor <;> omega) | omega | (simp only [List.length_set, List.length_append, List.length_cons, List.length_nil, List.length_take, List.length_drop]; omega) | with_reducible refine LW.set' ?_ _ ?_ | with_reducible refine LW.snoc ?_ ?_ ?_ | with_reducible refine LW.takeL ?_ _ | with_reducible refine LW.dropL ?_ _ | with_reducible refine W_int.mk ?_ | assumption)); done)); rintro _ ⟨_, _, _, _, _, _, _, _, _, _, _, _, _, _, _, _, _⟩)) | (((with_reducible refine Ok.bind (termAt_O ?_ _) ?_); (next => assumption); rintro _ _)) | (((with_reducible refine Ok.bind2 (drawLog_O (by assumption) ?_ ?_) ?_); (next => dsimp only; omega); (next => dsimp only; omega); rintro _ _ ⟨_, _, _⟩)) | (((with_reducible refine Ok.bind (newN_O _ (by assumption) (by assumption)) ?_); rintro _ ⟨_, _, _, _, _, _, _⟩)) | (((with_reducible refine Ok.bind2 (once_P (by assumption) _) ?_); rintro _ _ _)) | (((with_reducible refine Ok.bind2 (below_P (by assumption) _) ?_); rintro _ _ ⟨_, _, _, _⟩))) | with_reducible refine Ok.ret ?_))))
  all_goals (refine ⟨by assumption, ⟨?_, ?_, ?_, ?_, ?_, ?_, ?_, ?_, ?_, ?_, ?_, ?_, ?_, ?_⟩, ?_, ?_⟩ <;> ((repeat' (first | dsimp only [gi_c0, gi_cs, gl_c0, gl_cs, gi_v0] | with_reducible assumption | with_reducible exact wrI _ | (unfold I64; constructor <;> omega) | omega | (simp only [List.length_set]; omega) | with_reducible refine LW.set' ?_ _ ?_ | with_reducible refine LW.snoc ?_ ?_ ?_ | with_reducible refine LW.takeL ?_ _ | with_reducible refine LW.dropL ?_ _ | with_reducible refine W_int.mk ?_ | assumption)); done))
end Go.Eng.R
open Go Go.Eng
namespace Go.Eng.R
set_option maxRecDepth 100000
theorem bound_400 {x : Int} (h0 : 0 ≤ x) (h1 : x < 2 ∨ x = 0) : IntKind.i64.wrap (200 + (IntKind.i64.wrap ((IntKind.i64.wrap (x * 400)).tdiv 2))) ≤ 400 := by
  have : x = 0 ∨ x = 1 := by omega
  rcases this with rfl | rfl <;> decide
theorem bent_loop (r3 : List V) (r4 r5 r6 r8 r9 r10 : List V) (l8 : r8.length ≤ 5) (w9 : LW W_int r9) (l9 : r9.length ≤ 5) (w10 : LW W_int r10) (l10 : r10.length ≤ 5) : ∀ (k : Nat) (b b1 b2 : V) (r7 : List V), CurOk b → 401 - r7.length < k →
    LW B_Item r7 → r7.length ≤ 401 → I64 (gi b2 0) → I64 (gi b2 1) → I64 (gi b2 2) → I64 (gi b2 4) → I64 (gi b2 5) → I64 (gi b2 6) → I64 (gi b2 7) →
    Ok (fun r => CurOk r.1 ∧ I64 (gi r.2.2.1 0) ∧ I64 (gi r.2.2.1 1) ∧ I64 (gi r.2.2.1 2) ∧ I64 (gi r.2.2.1 4) ∧ I64 (gi r.2.2.1 5) ∧ I64 (gi r.2.2.1 6) ∧ I64 (gi r.2.2.1 7) ∧ LW B_Item r.2.2.2.2.2.2.2.1 ∧ r.2.2.2.2.2.2.2.1.length ≤ 401 ∧ r.2.2.2.2.2.2.2.2.1.length ≤ 5 ∧ LW W_int r.2.2.2.2.2.2.2.2.2.1 ∧ r.2.2.2.2.2.2.2.2.2.1.length ≤ 5 ∧ LW W_int r.2.2.2.2.2.2.2.2.2.2 ∧ r.2.2.2.2.2.2.2.2.2.2.length ≤ 5)
      (spec_l4bent_l5 k (n_spec_l1Cur b) b1 b2 r3 r4 r5 r6 r7 r8 r9 r10)
  | 0, _, _, _, _, _, h, _, _, _, _, _, _, _, _, _ => by omega
  | k + 1, b, b1, b2, r7, hb, hk, w7, l7, p0, p1, p2, p4, p5, p6, p7 => by
    have hb' : CurOk (n_spec_l1Cur b) := hb
    unfold spec_l4bent_l5
    ((repeat' (((with_reducible refine (id ?_ : Ok _ _)); first | (with_reducible refine Ok.chk (by (first | (refine idx_of ?_ ?_ <;> (try simp only [List.length_set, List.length_append, List.length_cons, List.length_nil, List.length_replicate, Nat.zero_add]) <;> omega) | (refine room_of ?_ ?_ <;> (try simp only [List.length_set, List.length_append, List.length_cons, List.length_nil, List.length_replicate, Nat.zero_add]) <;> omega) | assumption | (simp; done) | (simp; omega))) ?_) | ((with_reducible refine Ok.iteT ?_ ?_); (next => first | exact decide_eq_true (by with_reducible rfl) | (refine congrArg not (decide_eq_false ?_); intro h; revert h; dsimp only; decide))) | ((with_reducible refine Ok.iteF ?_ ?_); (next => first | (refine decide_eq_false ?_; intro h; revert h; dsimp only; decide) | exact congrArg not (decide_eq_true (by with_reducible rfl)))) | (with_reducible refine Ok.ite (fun _ => ?_) (fun _ => ?_) <;> (rename_i h; try simp only [decide_eq_true_eq, decide_eq_false_iff_not, Int.not_lt] at h)) | (((with_reducible refine Ok.bind2 (below_P (by assumption) _) ?_); rintro _ _ ⟨_, _, _, _⟩)) | with_reducible refine Ok.ret ?_))))
    · have hx := bound_400 (by assumption) (by assumption)
      refine bent_loop r3 r4 r5 r6 r8 r9 r10 l8 w9 l9 w10 l10 k _ _ _ _ (by assumption) ?_ (LW.snoc w7 (by omega) ⟨p1, ?_, ?_, ?_, BS.nil, BS.nil, ?_⟩) ?_ p0 p1 p2 p4 p5 p6 p7
      · rw [List.length_append, List.length_cons, List.length_nil]; omega
      all_goals first | (rw [List.length_append, List.length_cons, List.length_nil]; omega) | ((repeat' (first | dsimp only [gi_c0, gi_cs, gl_c0, gl_cs, gi_v0] | with_reducible assumption | with_reducible exact wrI _ | (unfold I64; constructor <;> omega) | omega | (simp only [List.length_set, List.length_append, List.length_cons, List.length_nil, List.length_take, List.length_drop]; omega) | with_reducible refine LW.set' ?_ _ ?_ | with_reducible refine LW.snoc ?_ ?_ ?_ | with_reducible refine LW.takeL ?_ _ | with_reducible refine LW.dropL ?_ _ | with_reducible refine W_int.mk ?_ | assumption)); done)
    · exact ⟨by assumption, p0, p1, p2, p4, p5, p6, p7, w7, l7, l8, w9, l9, w10, l10⟩
set_option maxHeartbeats 2000000 in
theorem nbent_O {c : V} (h : CurOk c) {servers : Int} (hs0 : 1 ≤ servers) (hs1 : servers ≤ 5) : Ok2 (fun n c => CurOk c ∧ B_Node 10 n) (spec_l4bent (n_spec_l1Cur c) servers) := by
  unfold spec_l4bent
  refine .of ?_
  have h' : CurOk (n_spec_l1Cur c) := h
  ((repeat' (((with_reducible refine (id ?_ : Ok _ _)); first | (with_reducible refine Ok.chk (by (first | (refine idx_of ?_ ?_ <;> (try simp only) <;> omega) | (refine room_of ?_ ?_ <;> (try simp only) <;> omega) | assumption | (simp; done) | (simp; omega))) ?_) | ((with_reducible refine Ok.iteT ?_ ?_); (next => first | exact decide_eq_true (by with_reducible rfl) | (refine congrArg not (decide_eq_false ?_); intro h; revert h; dsimp only; decide))) | ((with_reducible refine Ok.iteF ?_ ?_); (next => first | (refine decide_eq_false ?_; intro h; revert h; dsimp only; decide) | exact congrArg not (decide_eq_true (by with_reducible rfl)))) | (with_reducible refine Ok.ite (fun _ => ?_) (fun _ => ?_) <;> (rename_i h; try simp only [decide_eq_true_eq, decide_eq_false_iff_not, Bool.not_eq_true', Bool.not_eq_false'] at h)) | (first | (((with_reducible refine Ok.bind (bent_loop _ _ _ _ _ _ _ ?_ ?_ ?_ ?_ ?_ _ _ _ _ _ (by assumption) ?_ ?_ ?_ ?_ ?_ ?_ ?_ ?_ ?_ ?_) ?_); (next => ((repeat' (first | dsimp only [gi_c0, gi_cs, gl_c0, gl_cs, gi_v0] | with_reducible assumption | with_reducible exact wrI _ | (unfold I64; constructor <;> omega) | omega | (simp only [List.length_set, List.length_append, List.length_cons, List.length_nil, List.length_take, List.length_drop]; omega) | with_reducible refine LW.set' ?_ _ ?_ | with_reducible refine LW.snoc ?_ ?_ ?_ | with_reducible refine LW.takeL ?_ _ | with_reducible refine LW.dropL ?_ _ | with_reducible refine W_int.mk ?_ | assumption)); done)); (next => ((repeat' (first | dsimp only [gi_c0, gi_cs, gl_c0, gl_cs, gi_v0] | with_reducible assumption | with_reducible exact wrI _ | (unfold I64; constructor <;> omega) | omega | (simp only [List.length_set, List.length_append, List.length_cons, List.length_nil, List.length_take, List.length_drop]; omega) | with_reducible refine LW.set' ?_ _ ?_ | with_reducible refine LW.snoc ?_ ?_ ?_ | with_reducible refine LW.takeL ?_ _ | with_reducible refine LW.dropL ?_ _ | with_reducible refine W_int.mk ?_ | assumption)); done)); (next => ((repeat' (first | dsimp only [gi_c0, gi_cs, gl_c0, gl_cs, gi_v0] | with_reducible assumption | with_reducible exact wrI _ | (unfold I64; constructor <;> omega) | omega | (simp only [List.length_set, List.length_append, List.length_cons, List.length_nil, List.length_take, List.length_drop]; omega) | with_reducible refine LW.set' ?_ _ ?_ | with_reducible refine LW.snoc ?_ ?_ ?_ | with_reducible refine LW.takeL ?_ _ | with_reducible refine LW.dropL ?_ _ | with_reducible refine W_int.mk ?_ | assumption)); done)); (next => ((repeat' (first | dsimp only [gi_c0, gi_cs, gl_c0, gl_cs, gi_v0] | with_reducible assumption | with_reducible exact wrI _ | (unfold I64; constructor <;> omega) | omega | (simp only [List.length_set, List.length_append, List.length_cons, List.length_nil, List.length_take, List.length_drop]; omega) | with_reducible refine LW.set' ?_ _ ?_ | with_reducible refine LW.snoc ?_ ?_ ?_ | with_reducible refine LW.takeL ?_ _ | with_reducible refine LW.dropL ?_ _ | with_reducible refine W_int.mk ?_ | assumption)); done)); (next => ((repeat' (first | dsimp only [gi_c0, gi_cs, gl_c0, gl_cs, gi_v0] | with_reducible assumption | with_reducible exact wrI _ | (unfold I64; constructor <;> omega) | omega | (simp only [List.length_set, List.length_append, List.length_cons, List.length_nil, List.length_take, List.length_drop]; omega) | with_reducible refine LW.set' ?_ _ ?_ | with_reducible refine LW.snoc ?_ ?_ ?_ | with_reducible refine LW.takeL ?_ _ | with_reducible refine LW.dropL ?_ _ | with_reducible refine W_int.mk ?_ | assumption)); done)); (next => ((repeat' (first | dsimp only [gi_c0, gi_cs, gl_c0, gl_cs, gi_v0] | with_reducible assumption | with_reducible exact wrI _ | (unfold I64; constructor <;> omega) | omega | (simp only [List.length_set, List.length_append, List.length_cons, List.length_nil, List.length_take, List.length_drop]; omega) | with_reducible refine LW.set' ?_ _ ?_ | with_reducible refine LW.snoc ?_ ?_ ?_ | with_reducible refine LW.takeL ?_ _ | with_reducible refine LW.dropL ?_ _ | with_reducible refine W_int.mk ?_ | assumption)); done)); (next => ((repeat' (first | dsimp only [gi_c0, gi_cs, gl_c0, gl_cs, gi_v0] | with_reducible assumption | with_reducible exact wrI _ | (unfold I64; constructor <;> omega) | omega | (simp only [List.length_set, List.length_append, List.length_cons, List.length_nil, List.length_take, List.length_drop]; omega) | with_reducible refine LW.set' ?_ _ ?_ | with_reducible refine LW.snoc ?_ ?_ ?_ | with_reducible refine LW.takeL ?_ _ | with_reducible refine LW.dropL ?_ _ | with_reducible refine W_int.mk ?_ | assumption)); done)); (next => ((repeat' (first | dsimp only [gi_c0, gi_cs, gl_c0, gl_cs, gi_v0] | with_reducible assumption | with_reducible exact wrI _ | (unfold I64; constructor <;> omega) | omega | (simp only [List.length_set, List.length_append, List.length_cons, List.length_nil, List.length_take, List.length_drop]; omega) | with_reducible refine LW.set' ?_ _ ?_ | with_reducible refine LW.snoc ?_ ?_ ?_ | with_reducible refine LW.takeL ?_ _ | with_reducible refine LW.dropL ?_ _ | with_reducible refine W_int.mk ?_ | assumption)); done)); (next => ((repeat' (first | dsimp only [gi_c0, gi_cs, gl_c0, gl_cs, gi_v0] | with_reducible assumption | with_reducible exact wrI _ | (unfold I64; constructor <;> omega) | omega | (simp only [List.length_set, List.length_append, List.length_cons, List.length_nil, List.length_take, List.length_drop]; omega) | with_reducible refine LW.set' ?_ _ ?_ | with_reducible refine LW.snoc ?_ ?_ ?_ | with_reducible refine LW.takeL ?_ _ | with_reducible refine LW.dropL ?_ _ | with_reducible refine W_int.mk ?_ | assumption)); done)); (next => ((repeat' (first | dsimp only [gi_c0, gi_cs, gl_c0, gl_cs, gi_v0] | with_reducible assumption | with_reducible exact wrI _ | (unfold I64; constructor <;> omega) | omega | (simp only [List.length_set, List.length_append, List.length_cons, List.length_nil, List.length_take, List.length_drop]; omega) | with_reducible refine LW.set' ?_ _ ?_ | with_reducible refine LW.snoc ?_ ?_ ?_ | with_reducible refine LW.takeL ?_ _ | with_reducible refine LW.dropL ?_ _ | with_reducible refine W_int.mk ?_ | assumption)); done)); (next => ((repeat' (first | dsimp only [gi_c0, gi_cs, gl_c0, gl_cs, gi_v0] | with_reducible assumption | with_reducible exact wrI _ | (unfold I64; constructor <;> omega) | omega | (simp only [List.length_set, List.length_append, List.length_cons, List.length_nil, List.length_take, List.length_drop]; omega) | with_reducible refine LW.set' ?_ _ ?_ | with_reducible refine LW.snoc ?_ ?_ ?_ | with_reducible refine LW.takeL ?_ _ | with_reducible refine LW.dropL ?_ _ | with_reducible refine W_int.mk ?_ | assumption)); done)); (next => ((repeat' (first | dsimp only [gi_c0, gi_cs, gl_c0, gl_cs, gi_v0] | with_reducible assumption | with_reducible exact wrI _ | (unfold I64; constructor <;> omega) | omega | (simp only [List.length_set, List.length_append, List.length_cons, List.length_nil, List.length_take, List.length_drop]; omega) | with_reducible refine LW.set' ?_ _ ?_ | with_reducible refine LW.snoc ?_ ?_ ?_ | with_reducible refine LW.takeL ?_ _ | with_reducible refine LW.dropL ?_ _ | with_reducible refine W_int.mk ?_ | assumption)); done)); (next => ((repeat' (first | dsimp only [gi_c0, gi_cs, gl_c0, gl_cs, gi_v0] | with_reducible assumption | with_reducible exact wrI _ | (unfold I64; constructor <;> omega) | omega | (simp only [List.length_set, List.length_append, List.length_cons, List.length_nil, List.length_take, List.length_drop]; omega) | with_reducible refine LW.set' ?_ _ ?_ | with_reducible refine LW.snoc ?_ ?_ ?_ | with_reducible refine LW.takeL ?_ _ | with_reducible refine LW.dropL ?_ _ | with_reducible refine W_int.mk ?_ | assumption)); done)); (next => ((repeat' (first | dsimp only [gi_c0, gi_cs, gl_c0, gl_cs, gi_v0] | with_reducible assumption | with_reducible exact wrI _ | (unfold I64; constructor <;> omega) | omega | (simp only [List.length_set, List.length_append, List.length_cons, List.length_nil, List.length_take, List.length_drop]; omega) | with_reducible refine LW.set' ?_ _ ?_ | with_reducible refine LW.snoc ?_ ?_ ?_ | with_reducible refine LW.takeL ?_ _ | with_reducible refine LW.dropL ?_ _ | with_reducible refine W_int.mk ?_ | assumption)); done)); (next => ((repeat' (first | dsimp only [gi_c0, gi_cs, gl_c0, gl_cs, gi_v0] | with_reducible assumption | with_reducible exact wrI _ | (unfold I64; constructor <;> omega) | omega | (simp only [List.length_set, List.length_append, List.length_cons, List.length_nil, List.length_take, List.length_drop]; omega) | with_reducible refine LW.set' ?_ _ ?_ | with_reducible refine LW.snoc ?_ ?_ ?_ | with_reducible refine LW.takeL ?_ _ | with_reducible refine LW.dropL ?_ _ | with_reducible refine W_int.mk ?_ | assumption)); done)); rintro _ ⟨_, _, _, _, _, _, _, _, _, _, _, _, _, _, _⟩)) | (((with_reducible refine Ok.bind2 (node_O (by assumption) (by assumption) (by assumption)) ?_); rintro _ _ ⟨_, ⟨_, _, _, _, _, _, _, _, _, _, _, _, _, _⟩, _, _⟩)) | (((with_reducible refine Ok.bind2 (drawItem_O (by assumption) ?_) ?_); (next => first | assumption | with_reducible exact wrI _ | ((unfold I64; constructor <;> omega))); rintro _ _ ⟨_, _⟩)) | (((with_reducible refine Ok.bind2 (pick_P (by assumption) ?_ ?_) ?_); (next => exact Nat.succ_pos _); (next => repeat' (first | trivial | ((repeat' (first | dsimp only [gi_c0, gi_cs, gl_c0, gl_cs, gi_v0] | with_reducible assumption | with_reducible exact wrI _ | (unfold I64; constructor <;> omega) | omega | (simp only [List.length_set, List.length_append, List.length_cons, List.length_nil, List.length_take, List.length_drop]; omega) | with_reducible refine LW.set' ?_ _ ?_ | with_reducible refine LW.snoc ?_ ?_ ?_ | with_reducible refine LW.takeL ?_ _ | with_reducible refine LW.dropL ?_ _ | with_reducible refine W_int.mk ?_ | assumption)); done) | refine And.intro ?_ ?_)); rintro _ _ ⟨_, _⟩)) | (((with_reducible refine Ok.bind2 (once_P (by assumption) _) ?_); rintro _ _ _)) | (((with_reducible refine Ok.bind2 (below_P (by assumption) _) ?_); rintro _ _ ⟨_, _, _, _⟩))) | with_reducible refine Ok.ret ?_))))
  all_goals (refine ⟨by assumption, ?_, ?_, ?_, ?_, ?_, ?_, ?_, ?_, ?_, ?_, ?_, ?_, ?_, ?_⟩ <;> first | ((repeat' (first | dsimp only [gi_c0, gi_cs, gl_c0, gl_cs, gi_v0] | with_reducible assumption | with_reducible exact wrI _ | (unfold I64; constructor <;> omega) | omega | (simp only [List.length_set, List.length_append, List.length_cons, List.length_nil]; omega) | with_reducible refine LW.set' ?_ _ ?_ | with_reducible refine LW.snoc ?_ ?_ ?_ | with_reducible refine LW.takeL ?_ _ | with_reducible refine LW.dropL ?_ _ | with_reducible refine W_int.mk ?_ | assumption)); done) | exact Nat.le_trans (by assumption) (by decide : 5 ≤ 10) | exact Nat.le_trans (by assumption) (by decide : 396 + 5 ≤ 396 + 10) | (refine LW.snoc ?_ ?_ ?_ <;> ((repeat' (first | dsimp only [gi_c0, gi_cs, gl_c0, gl_cs, gi_v0] | with_reducible assumption | with_reducible exact wrI _ | (unfold I64; constructor <;> omega) | omega | (simp only [List.length_set, List.length_append, List.length_cons, List.length_nil, List.length_take, List.length_drop]; omega) | with_reducible refine LW.set' ?_ _ ?_ | with_reducible refine LW.snoc ?_ ?_ ?_ | with_reducible refine LW.takeL ?_ _ | with_reducible refine LW.dropL ?_ _ | with_reducible refine W_int.mk ?_ | assumption)); done)) | skip)
end Go.Eng.R
open Go Go.Eng
namespace Go.Eng.R
set_option maxRecDepth 100000
def B_Msg (m : Nat) (x : V) : Prop := I64 (gi x 0) ∧ I64 (gi x 1) ∧ I64 (gi x 2) ∧ I64 (gi x 3) ∧ I64 (gi x 4) ∧ I64 (gi x 5) ∧ LW B_Item (gl x 6) ∧ (gl x 6).length ≤ m ∧ I64 (gi x 7)
theorem msg_loop {n4 : Int} (hn : n4 ≤ 5) (r3 : List V) : ∀ (k : Nat) (t i : Int) (b b1 b2 : V) (l : List V), CurOk b → 0 ≤ i → (n4 - i).toNat < k → i ≤ n4 → I64 t → LW B_Item l → (l.length : Int) = i →
    I64 (gi b2 0) → I64 (gi b2 1) → I64 (gi b2 2) → I64 (gi b2 3) → I64 (gi b2 4) → I64 (gi b2 5) → I64 (gi b2 7) →
    Ok (fun r => CurOk r.1 ∧ I64 (gi r.2.2.1 0) ∧ I64 (gi r.2.2.1 1) ∧ I64 (gi r.2.2.1 2) ∧ I64 (gi r.2.2.1 3) ∧ I64 (gi r.2.2.1 4) ∧ I64 (gi r.2.2.1 5) ∧ I64 (gi r.2.2.1 7) ∧ LW B_Item r.2.2.2.2 ∧ r.2.2.2.2.length ≤ 5)
      (spec_l3draw_l17 k n4 t i (n_spec_l1Cur b) b1 b2 r3 l)
  | 0, _, _, _, _, _, _, _, _, h, _, _, _, _, _, _, _, _, _, _, _ => by omega
  | k + 1, t, i, b, b1, b2, l, hb, i0, hk, i1, ht, hl, hli, p0, p1, p2, p3, p4, p5, p7 => by
    have hb' : CurOk (n_spec_l1Cur b) := hb
    have hw : i < n4 → IntKind.i64.wrap (i + 1) = i + 1 := fun _ => wr64' (by omega) (by omega)
    unfold spec_l3draw_l17
    ((repeat' (((with_reducible refine (id ?_ : Ok _ _)); first | (with_reducible refine Ok.chk (by (first | (refine idx_of ?_ ?_ <;> (try simp only [List.length_set, List.length_append, List.length_cons, List.length_nil, List.length_replicate, Nat.zero_add]) <;> omega) | (refine room_of ?_ ?_ <;> (try simp only [List.length_set, List.length_append, List.length_cons, List.length_nil, List.length_replicate, Nat.zero_add]) <;> omega) | assumption | (simp; done) | (simp; omega))) ?_) | ((with_reducible refine Ok.iteT ?_ ?_); (next => first | exact decide_eq_true (by with_reducible rfl) | (refine congrArg not (decide_eq_false ?_); intro h; revert h; dsimp only; decide))) | ((with_reducible refine Ok.iteF ?_ ?_); (next => first | (refine decide_eq_false ?_; intro h; revert h; dsimp only; decide) | exact congrArg not (decide_eq_true (by with_reducible rfl)))) | (with_reducible refine Ok.ite (fun _ => ?_) (fun _ => ?_) <;> (rename_i h; try simp only [decide_eq_true_eq, decide_eq_false_iff_not, Int.not_lt] at h)) | (first | (((with_reducible refine Ok.bind2 (drawItem_O (by assumption) ?_) ?_); (next => first | assumption | with_reducible exact wrI _ | ((unfold I64; constructor <;> omega))); rintro _ _ ⟨_, _⟩)) | (((with_reducible refine Ok.bind2 (once_P (by assumption) _) ?_); rintro _ _ _))) | with_reducible refine Ok.ret ?_))))
    · refine msg_loop hn r3 k _ _ _ _ _ _ (by assumption) ?_ ?_ ?_ (wrI _) (LW.snoc hl (by omega) (by assumption)) ?_ p0 p1 p2 p3 p4 p5 p7 <;> (rw [hw (by assumption)]; try simp only [List.length_append, List.length_cons, List.length_nil]) <;> omega
    · refine msg_loop hn r3 k _ _ _ _ _ _ (by assumption) ?_ ?_ ?_ ht (LW.snoc hl (by omega) (by assumption)) ?_ p0 p1 p2 p3 p4 p5 p7 <;> (rw [hw (by assumption)]; try simp only [List.length_append, List.length_cons, List.length_nil]) <;> omega
    · refine msg_loop hn r3 k _ _ _ _ _ _ (by assumption) ?_ ?_ ?_ ht (LW.snoc hl (by omega) (by assumption)) ?_ p0 p1 p2 p3 p4 p5 p7 <;> (rw [hw (by assumption)]; try simp only [List.length_append, List.length_cons, List.length_nil]) <;> omega
    · exact ⟨hb, p0, p1, p2, p3, p4, p5, p7, hl, by show l.length ≤ 5; omega⟩
theorem tmI (a : Int) : I64 ((IntKind.i64.wrap a).tmod 3) := by
  have h := wrI a
  unfold I64 at *
  have h1 := Int.tmod_lt_of_pos (IntKind.i64.wrap a) (b := 3) (by decide)
  have h2 : -3 < (IntKind.i64.wrap a).tmod 3 := Int.lt_tmod_of_pos _ (by decide)
  omega
set_option maxHeartbeats 2000000 in
theorem mdraw_O {c : V} (h : CurOk c) : Ok2 (fun m c => CurOk c ∧ B_Msg 5 m) (spec_l3draw (n_spec_l1Cur c)) := by
  unfold spec_l3draw
  refine .of ?_
  have h' : CurOk (n_spec_l1Cur c) := h
  ((repeat' (((with_reducible refine (id ?_ : Ok _ _)); first | (with_reducible refine Ok.chk (by (first | (refine idx_of ?_ ?_ <;> (try simp only [List.length_set, List.length_append, List.length_cons, List.length_nil, List.length_replicate, Nat.zero_add]) <;> omega) | (refine room_of ?_ ?_ <;> (try simp only [List.length_set, List.length_append, List.length_cons, List.length_nil, List.length_replicate, Nat.zero_add]) <;> omega) | assumption | (simp; done) | (simp; omega))) ?_) | ((with_reducible refine Ok.iteT ?_ ?_); (next => first | exact decide_eq_true (by with_reducible rfl) | (refine congrArg not (decide_eq_false ?_); intro h; revert h; dsimp only; decide))) | ((with_reducible refine Ok.iteF ?_ ?_); (next => first | (refine decide_eq_false ?_; intro h; revert h; dsimp only; decide) | exact congrArg not (decide_eq_true (by with_reducible rfl)))) | (with_reducible refine Ok.ite (fun _ => ?_) (fun _ => ?_) <;> (rename_i h; try simp only [decide_eq_true_eq, decide_eq_false_iff_not, Int.not_lt] at h)) | (first | (((with_reducible refine Ok.bind (msg_loop ?_ _ _ _ _ _ _ _ _ (by assumption) ?_ ?_ ?_ ?_ ?_ ?_ ?_ ?_ ?_ ?_ ?_ ?_ ?_) ?_); (next => ((repeat' (first | dsimp only [gi_c0, gi_cs, gl_c0, gl_cs, gi_v0] | with_reducible assumption | with_reducible exact wrI _ | (unfold I64; constructor <;> omega) | with_reducible exact tmI _ | with_reducible exact LW.nil | omega | (simp only [List.length_set, List.length_append, List.length_cons, List.length_nil, List.length_take, List.length_drop]; omega) | with_reducible refine LW.set' ?_ _ ?_ | with_reducible refine LW.snoc ?_ ?_ ?_ | with_reducible refine LW.takeL ?_ _ | with_reducible refine LW.dropL ?_ _ | with_reducible refine W_int.mk ?_ | assumption)); done)); (next => ((repeat' (first | dsimp only [gi_c0, gi_cs, gl_c0, gl_cs, gi_v0] | with_reducible assumption | with_reducible exact wrI _ | (unfold I64; constructor <;> omega) | with_reducible exact tmI _ | with_reducible exact LW.nil | omega | (simp only [List.length_set, List.length_append, List.length_cons, List.length_nil, List.length_take, List.length_drop]; omega) | with_reducible refine LW.set' ?_ _ ?_ | with_reducible refine LW.snoc ?_ ?_ ?_ | with_reducible refine LW.takeL ?_ _ | with_reducible refine LW.dropL ?_ _ | with_reducible refine W_int.mk ?_ | assumption)); done)); (next => ((repeat' (first | dsimp only [gi_c0, gi_cs, gl_c0, gl_cs, gi_v0] | with_reducible assumption | with_reducible exact wrI _ | (unfold I64; constructor <;> omega) | with_reducible exact tmI _ | with_reducible exact LW.nil | omega | (simp only [List.length_set, List.length_append, List.length_cons, List.length_nil, List.length_take, List.length_drop]; omega) | with_reducible refine LW.set' ?_ _ ?_ | with_reducible refine LW.snoc ?_ ?_ ?_ | with_reducible refine LW.takeL ?_ _ | with_reducible refine LW.dropL ?_ _ | with_reducible refine W_int.mk ?_ | assumption)); done)); (next => ((repeat' (first | dsimp only [gi_c0, gi_cs, gl_c0, gl_cs, gi_v0] | with_reducible assumption | with_reducible exact wrI _ | (unfold I64; constructor <;> omega) | with_reducible exact tmI _ | with_reducible exact LW.nil | omega | (simp only [List.length_set, List.length_append, List.length_cons, List.length_nil, List.length_take, List.length_drop]; omega) | with_reducible refine LW.set' ?_ _ ?_ | with_reducible refine LW.snoc ?_ ?_ ?_ | with_reducible refine LW.takeL ?_ _ | with_reducible refine LW.dropL ?_ _ | with_reducible refine W_int.mk ?_ | assumption)); done)); (next => ((repeat' (first | dsimp only [gi_c0, gi_cs, gl_c0, gl_cs, gi_v0] | with_reducible assumption | with_reducible exact wrI _ | (unfold I64; constructor <;> omega) | with_reducible exact tmI _ | with_reducible exact LW.nil | omega | (simp only [List.length_set, List.length_append, List.length_cons, List.length_nil, List.length_take, List.length_drop]; omega) | with_reducible refine LW.set' ?_ _ ?_ | with_reducible refine LW.snoc ?_ ?_ ?_ | with_reducible refine LW.takeL ?_ _ | with_reducible refine LW.dropL ?_ _ | with_reducible refine W_int.mk ?_ | assumption)); done)); (next => ((repeat' (first | dsimp only [gi_c0, gi_cs, gl_c0, gl_cs, gi_v0] | with_reducible assumption | with_reducible exact wrI _ | (unfold I64; constructor <;> omega) | with_reducible exact tmI _ | with_reducible exact LW.nil | omega | (simp only [List.length_set, List.length_append, List.length_cons, List.length_nil, List.length_take, List.length_drop]; omega) | with_reducible refine LW.set' ?_ _ ?_ | with_reducible refine LW.snoc ?_ ?_ ?_ | with_reducible refine LW.takeL ?_ _ | with_reducible refine LW.dropL ?_ _ | with_reducible refine W_int.mk ?_ | assumption)); done)); (next => ((repeat' (first | dsimp only [gi_c0, gi_cs, gl_c0, gl_cs, gi_v0] | with_reducible assumption | with_reducible exact wrI _ | (unfold I64; constructor <;> omega) | with_reducible exact tmI _ | with_reducible exact LW.nil | omega | (simp only [List.length_nil]; omega) | with_reducible refine LW.set' ?_ _ ?_ | with_reducible refine LW.snoc ?_ ?_ ?_ | with_reducible refine LW.takeL ?_ _ | with_reducible refine LW.dropL ?_ _ | with_reducible refine W_int.mk ?_ | assumption)); done)); (next => ((repeat' (first | dsimp only [gi_c0, gi_cs, gl_c0, gl_cs, gi_v0] | with_reducible assumption | with_reducible exact wrI _ | (unfold I64; constructor <;> omega) | with_reducible exact tmI _ | with_reducible exact LW.nil | omega | (simp only [List.length_set, List.length_append, List.length_cons, List.length_nil, List.length_take, List.length_drop]; omega) | with_reducible refine LW.set' ?_ _ ?_ | with_reducible refine LW.snoc ?_ ?_ ?_ | with_reducible refine LW.takeL ?_ _ | with_reducible refine LW.dropL ?_ _ | with_reducible refine W_int.mk ?_ | assumption)); done)); (next => ((repeat' (first | dsimp only [gi_c0, gi_cs, gl_c0, gl_cs, gi_v0] | with_reducible assumption | with_reducible exact wrI _ | (unfold I64; constructor <;> omega) | with_reducible exact tmI _ | with_reducible exact LW.nil | omega | (simp only [List.length_set, List.length_append, List.length_cons, List.length_nil, List.length_take, List.length_drop]; omega) | with_reducible refine LW.set' ?_ _ ?_ | with_reducible refine LW.snoc ?_ ?_ ?_ | with_reducible refine LW.takeL ?_ _ | with_reducible refine LW.dropL ?_ _ | with_reducible refine W_int.mk ?_ | assumption)); done)); (next => ((repeat' (first | dsimp only [gi_c0, gi_cs, gl_c0, gl_cs, gi_v0] | with_reducible assumption | with_reducible exact wrI _ | (unfold I64; constructor <;> omega) | with_reducible exact tmI _ | with_reducible exact LW.nil | omega | (simp only [List.length_set, List.length_append, List.length_cons, List.length_nil, List.length_take, List.length_drop]; omega) | with_reducible refine LW.set' ?_ _ ?_ | with_reducible refine LW.snoc ?_ ?_ ?_ | with_reducible refine LW.takeL ?_ _ | with_reducible refine LW.dropL ?_ _ | with_reducible refine W_int.mk ?_ | assumption)); done)); (next => ((repeat' (first | dsimp only [gi_c0, gi_cs, gl_c0, gl_cs, gi_v0] | with_reducible assumption | with_reducible exact wrI _ | (unfold I64; constructor <;> omega) | with_reducible exact tmI _ | with_reducible exact LW.nil | omega | (simp only [List.length_set, List.length_append, List.length_cons, List.length_nil, List.length_take, List.length_drop]; omega) | with_reducible refine LW.set' ?_ _ ?_ | with_reducible refine LW.snoc ?_ ?_ ?_ | with_reducible refine LW.takeL ?_ _ | with_reducible refine LW.dropL ?_ _ | with_reducible refine W_int.mk ?_ | assumption)); done)); (next => ((repeat' (first | dsimp only [gi_c0, gi_cs, gl_c0, gl_cs, gi_v0] | with_reducible assumption | with_reducible exact wrI _ | (unfold I64; constructor <;> omega) | with_reducible exact tmI _ | with_reducible exact LW.nil | omega | (simp only [List.length_set, List.length_append, List.length_cons, List.length_nil, List.length_take, List.length_drop]; omega) | with_reducible refine LW.set' ?_ _ ?_ | with_reducible refine LW.snoc ?_ ?_ ?_ | with_reducible refine LW.takeL ?_ _ | with_reducible refine LW.dropL ?_ _ | with_reducible refine W_int.mk ?_ | assumption)); done)); (next => ((repeat' (first | dsimp only [gi_c0, gi_cs, gl_c0, gl_cs, gi_v0] | with_reducible assumption | with_reducible exact wrI _ | (unfold I64; constructor <;> omega) | with_reducible exact tmI _ | with_reducible exact LW.nil | omega | (simp only [List.length_set, List.length_append, List.length_cons, List.length_nil, List.length_take, List.length_drop]; omega) | with_reducible refine LW.set' ?_ _ ?_ | with_reducible refine LW.snoc ?_ ?_ ?_ | with_reducible refine LW.takeL ?_ _ | with_reducible refine LW.dropL ?_ _ | with_reducible refine W_int.mk ?_ | assumption)); done)); (next => ((repeat' (first | dsimp only [gi_c0, gi_cs, gl_c0, gl_cs, gi_v0] | with_reducible assumption | with_reducible exact wrI _ | (unfold I64; constructor <;> omega) | with_reducible exact tmI _ | with_reducible exact LW.nil | omega | (simp only [List.length_set, List.length_append, List.length_cons, List.length_nil, List.length_take, List.length_drop]; omega) | with_reducible refine LW.set' ?_ _ ?_ | with_reducible refine LW.snoc ?_ ?_ ?_ | with_reducible refine LW.takeL ?_ _ | with_reducible refine LW.dropL ?_ _ | with_reducible refine W_int.mk ?_ | assumption)); done)); rintro _ ⟨_, _, _, _, _, _, _, _, _, _⟩)) | (((with_reducible refine Ok.bind2 (once_P (by assumption) _) ?_); rintro _ _ _)) | (((with_reducible refine Ok.bind2 (below_P (by assumption) _) ?_); rintro _ _ ⟨_, _, _, _⟩))) | with_reducible refine Ok.ret ?_))))
  all_goals (refine ⟨by assumption, ?_, ?_, ?_, ?_, ?_, ?_, ?_, ?_, ?_⟩ <;> first | ((repeat' (first | dsimp only [gi_c0, gi_cs, gl_c0, gl_cs, gi_v0] | with_reducible assumption | with_reducible exact wrI _ | (unfold I64; constructor <;> omega) | with_reducible exact tmI _ | with_reducible exact LW.nil | omega | (simp only [List.length_nil]; omega) | with_reducible refine LW.set' ?_ _ ?_ | with_reducible refine LW.snoc ?_ ?_ ?_ | with_reducible refine LW.takeL ?_ _ | with_reducible refine LW.dropL ?_ _ | with_reducible refine W_int.mk ?_ | assumption)); done) | skip)
end Go.Eng.R
open Go Go.Eng
namespace Go.Eng.R
set_option maxRecDepth 100000
set_option maxHeartbeats 2000000 in
theorem mbent_O {c : V} (h : CurOk c) : Ok2 (fun m c => CurOk c ∧ B_Msg 6 m) (spec_l3bent (n_spec_l1Cur c)) := by
  unfold spec_l3bent
  refine .of ?_
  have h' : CurOk (n_spec_l1Cur c) := h
  ((repeat' (((with_reducible refine (id ?_ : Ok _ _)); first | (with_reducible refine Ok.chk (by (first | (refine idx_of ?_ ?_ <;> (try simp only [List.length_set, List.length_append, List.length_cons, List.length_nil, List.length_replicate, Nat.zero_add]) <;> omega) | (refine room_of ?_ ?_ <;> (try simp only) <;> omega) | assumption | (simp; done) | (simp; omega))) ?_) | ((with_reducible refine Ok.iteT ?_ ?_); (next => first | exact decide_eq_true (by with_reducible rfl) | (refine congrArg not (decide_eq_false ?_); intro h; revert h; dsimp only; decide))) | ((with_reducible refine Ok.iteF ?_ ?_); (next => first | (refine decide_eq_false ?_; intro h; revert h; dsimp only; decide) | exact congrArg not (decide_eq_true (by with_reducible rfl)))) | (with_reducible refine Ok.ite (fun _ => ?_) (fun _ => ?_) <;> (rename_i h; try simp only [decide_eq_true_eq, decide_eq_false_iff_not, Bool.not_eq_true', Bool.not_eq_false'] at h)) | (first | (((with_reducible refine Ok.bind2 (mdraw_O (by assumption)) ?_); rintro _ _ ⟨_, _, _, _, _, _, _, _, _, _⟩)) | (((with_reducible refine Ok.bind2 (drawItem_O (by assumption) ?_) ?_); (next => first | assumption | with_reducible exact wrI _ | ((unfold I64; constructor <;> omega))); rintro _ _ ⟨_, _⟩)) | (((with_reducible refine Ok.bind2 (pick_P (by assumption) ?_ ?_) ?_); (next => exact Nat.succ_pos _); (next => repeat' (first | trivial | ((repeat' (first | dsimp only [gi_c0, gi_cs, gl_c0, gl_cs, gi_v0] | with_reducible assumption | with_reducible exact wrI _ | (unfold I64; constructor <;> omega) | with_reducible exact tmI _ | with_reducible exact LW.nil | omega | (simp only [List.length_set, List.length_append, List.length_cons, List.length_nil, List.length_take, List.length_drop]; omega) | with_reducible refine LW.set' ?_ _ ?_ | with_reducible refine LW.snoc ?_ ?_ ?_ | with_reducible refine LW.takeL ?_ _ | with_reducible refine LW.dropL ?_ _ | with_reducible refine W_int.mk ?_ | assumption)); done) | refine And.intro ?_ ?_)); rintro _ _ ⟨_, _⟩)) | (((with_reducible refine Ok.bind2 (once_P (by assumption) _) ?_); rintro _ _ _)) | (((with_reducible refine Ok.bind2 (below_P (by assumption) _) ?_); rintro _ _ ⟨_, _, _, _⟩))) | with_reducible refine Ok.ret ?_))))
  all_goals (refine ⟨by assumption, ?_, ?_, ?_, ?_, ?_, ?_, ?_, ?_, ?_⟩ <;> first | ((repeat' (first | dsimp only [gi_c0, gi_cs, gl_c0, gl_cs, gi_v0] | with_reducible assumption | with_reducible exact wrI _ | (unfold I64; constructor <;> omega) | with_reducible exact tmI _ | with_reducible exact LW.nil | omega | (simp only [List.length_append, List.length_cons, List.length_nil]; omega) | with_reducible refine LW.set' ?_ _ ?_ | with_reducible refine LW.snoc ?_ ?_ ?_ | with_reducible refine LW.takeL ?_ _ | with_reducible refine LW.dropL ?_ _ | with_reducible refine W_int.mk ?_ | assumption)); done) | exact Nat.le_trans (by assumption) (by decide : 5 ≤ 6) | (refine LW.snoc ?_ ?_ ?_ <;> ((repeat' (first | dsimp only [gi_c0, gi_cs, gl_c0, gl_cs, gi_v0] | with_reducible assumption | with_reducible exact wrI _ | (unfold I64; constructor <;> omega) | with_reducible exact tmI _ | with_reducible exact LW.nil | omega | (simp only [List.length_set, List.length_append, List.length_cons, List.length_nil, List.length_take, List.length_drop]; omega) | with_reducible refine LW.set' ?_ _ ?_ | with_reducible refine LW.snoc ?_ ?_ ?_ | with_reducible refine LW.takeL ?_ _ | with_reducible refine LW.dropL ?_ _ | with_reducible refine W_int.mk ?_ | assumption)); done)) | skip)
end Go.Eng.R
open Go Go.Eng
namespace Go.Eng.R
set_option maxRecDepth 100000
theorem B_Item.term {x : V} (h : B_Item x) {t : Int} (ht : I64 t) : B_Item (V.agg [(V.int .i64 t), (V.int .i64 (gi x 1)), (V.int .i64 (gi x 2)), (V.int .i64 (gi x 3)), (V.inl t_byte (gl x 4)), (V.inl t_byte (gl x 5)), (V.int .i64 (gi x 6))]) :=
  ⟨ht, h.2.1, h.2.2.1, h.2.2.2.1, h.2.2.2.2.1, h.2.2.2.2.2.1, h.2.2.2.2.2.2⟩
theorem hear13 {k6 : Int} (hk6 : I64 k6) (e0 e1 e2 e3 e4 l3 l8 l9 l10 : List V) (w3 : LW B_Item l3) (n3 : l3.length ≤ 406) (n8 : l8.length ≤ 10) (w9 : LW W_int l9) (n9 : l9.length ≤ 10) (w10 : LW W_int l10) (n10 : l10.length ≤ 10) : ∀ (k : Nat) (i : Int) (b0 b1 b2 b3 b4 : V) (l : List V), CurOk b2 → 0 ≤ i → i ≤ (l.length : Int) → (l.length - i).toNat < k → l.length ≤ 6 → LW B_Item l → I64 (gi b3 0) → I64 (gi b3 1) → I64 (gi b3 2) → I64 (gi b3 4) → I64 (gi b3 5) → I64 (gi b3 6) → I64 (gi b3 7) → I64 (gi b4 0) → I64 (gi b4 1) → I64 (gi b4 2) → I64 (gi b4 3) → I64 (gi b4 4) → I64 (gi b4 5) → I64 (gi b4 7) → Ok (fun r => I64 r.1 ∧ CurOk r.2.2.2.1 ∧ I64 (gi r.2.2.2.2.1 0) ∧ I64 (gi r.2.2.2.2.1 1) ∧ I64 (gi r.2.2.2.2.1 2) ∧ I64 (gi r.2.2.2.2.1 4) ∧ I64 (gi r.2.2.2.2.1 5) ∧ I64 (gi r.2.2.2.2.1 6) ∧ I64 (gi r.2.2.2.2.1 7) ∧ I64 (gi r.2.2.2.2.2.1 0) ∧ I64 (gi r.2.2.2.2.2.1 1) ∧ I64 (gi r.2.2.2.2.2.1 2) ∧ I64 (gi r.2.2.2.2.2.1 3) ∧ I64 (gi r.2.2.2.2.2.1 4) ∧ I64 (gi r.2.2.2.2.2.1 5) ∧ I64 (gi r.2.2.2.2.2.1 7) ∧ LW B_Item r.2.2.2.2.2.2.2.2.2.2.2.1 ∧ r.2.2.2.2.2.2.2.2.2.2.2.1.length ≤ 406 ∧ r.2.2.2.2.2.2.2.2.2.2.2.2.1.length ≤ 10 ∧ LW W_int r.2.2.2.2.2.2.2.2.2.2.2.2.2.1 ∧ r.2.2.2.2.2.2.2.2.2.2.2.2.2.1.length ≤ 10 ∧ LW W_int r.2.2.2.2.2.2.2.2.2.2.2.2.2.2.1 ∧ r.2.2.2.2.2.2.2.2.2.2.2.2.2.2.1.length ≤ 10 ∧ LW B_Item r.2.2.2.2.2.2.2.2.2.2.2.2.2.2.2 ∧ r.2.2.2.2.2.2.2.2.2.2.2.2.2.2.2.length ≤ 6) (spec_DrawHear_l13 k k6 i b0 b1 (n_spec_l1Cur b2) b3 b4 e0 e1 e2 e3 e4 l3 l8 l9 l10 l)
  | 0, _, _, _, _, _, _, _, _, _, _, h, _, _, _, _, _, _, _, _, _, _, _, _, _, _, _, _ => by omega
  | k + 1, i, b0, b1, b2, b3, b4, l, hc, i0, i1, hk, hl6, hl, p0, p1, p2, p4, p5, p6, p7, q0, q1, q2, q3, q4, q5, q7 => by
    have hw : i < (l.length : Int) → IntKind.i64.wrap (i + 1) = i + 1 := fun _ => wr64' (by omega) (by omega)
    unfold spec_DrawHear_l13
    ((repeat' (((with_reducible refine (id ?_ : Ok _ _)); first | (with_reducible refine Ok.chk (by (first | (refine idx_of ?_ ?_ <;> (try simp only [List.length_set, List.length_append, List.length_cons, List.length_nil, List.length_replicate, Nat.zero_add]) <;> omega) | (refine room_of ?_ ?_ <;> (try simp only [List.length_set, List.length_append, List.length_cons, List.length_nil, List.length_replicate, Nat.zero_add]) <;> omega) | assumption | (simp; done) | (simp; omega))) ?_) | ((with_reducible refine Ok.iteT ?_ ?_); (next => first | exact decide_eq_true (by with_reducible rfl) | (refine congrArg not (decide_eq_false ?_); intro h; revert h; dsimp only; decide))) | ((with_reducible refine Ok.iteF ?_ ?_); (next => first | (refine decide_eq_false ?_; intro h; revert h; dsimp only; decide) | exact congrArg not (decide_eq_true (by with_reducible rfl)))) | (with_reducible refine Ok.ite (fun _ => ?_) (fun _ => ?_) <;> (rename_i h; try simp only [decide_eq_true_eq, decide_eq_false_iff_not, Int.not_lt] at h)) | fail | with_reducible refine Ok.ret ?_))))
    · refine hear13 hk6 e0 e1 e2 e3 e4 l3 l8 l9 l10 w3 n3 n8 w9 n9 w10 n10 k _ _ _ _ _ _ _ hc ?_ ?_ ?_ (by rw [List.length_set]; exact hl6) (LW.set' hl _ (B_Item.term (LW.rd hl (i := 0 + i.toNat) (by omega)) q3)) p0 p1 p2 p4 p5 p6 p7 q0 q1 q2 q3 q4 q5 q7 <;> (rw [hw (by assumption)]; try rw [List.length_set]) <;> omega
    · refine hear13 hk6 e0 e1 e2 e3 e4 l3 l8 l9 l10 w3 n3 n8 w9 n9 w10 n10 k _ _ _ _ _ _ _ hc ?_ ?_ ?_ hl6 hl p0 p1 p2 p4 p5 p6 p7 q0 q1 q2 q3 q4 q5 q7 <;> (rw [hw (by assumption)]; try rw [List.length_set]) <;> omega
    · exact ⟨hk6, hc, p0, p1, p2, p4, p5, p6, p7, q0, q1, q2, q3, q4, q5, q7, w3, n3, n8, w9, n9, w10, n10, hl, hl6⟩
theorem hear20 {k6 : Int} (hk6 : I64 k6) (e0 e1 e2 e3 e4 l3 l8 l9 l10 : List V) (w3 : LW B_Item l3) (n3 : l3.length ≤ 406) (n8 : l8.length ≤ 10) (w9 : LW W_int l9) (n9 : l9.length ≤ 10) (w10 : LW W_int l10) (n10 : l10.length ≤ 10) : ∀ (k : Nat) (i : Int) (b0 b1 b2 b3 : V) (l : List V), 0 ≤ i → i ≤ (l.length : Int) → (l.length - i).toNat < k → l.length ≤ 6 → LW B_Item l → I64 (gi b2 0) → I64 (gi b2 1) → I64 (gi b2 2) → I64 (gi b2 4) → I64 (gi b2 5) → I64 (gi b2 6) → I64 (gi b2 7) → I64 (gi b3 0) → I64 (gi b3 1) → I64 (gi b3 2) → I64 (gi b3 3) → I64 (gi b3 4) → I64 (gi b3 5) → I64 (gi b3 7) → Ok (fun r => I64 r.1 ∧ I64 (gi r.2.2.2.1 0) ∧ I64 (gi r.2.2.2.1 1) ∧ I64 (gi r.2.2.2.1 2) ∧ I64 (gi r.2.2.2.1 4) ∧ I64 (gi r.2.2.2.1 5) ∧ I64 (gi r.2.2.2.1 6) ∧ I64 (gi r.2.2.2.1 7) ∧ I64 (gi r.2.2.2.2.1 0) ∧ I64 (gi r.2.2.2.2.1 1) ∧ I64 (gi r.2.2.2.2.1 2) ∧ I64 (gi r.2.2.2.2.1 3) ∧ I64 (gi r.2.2.2.2.1 4) ∧ I64 (gi r.2.2.2.2.1 5) ∧ I64 (gi r.2.2.2.2.1 7) ∧ LW B_Item r.2.2.2.2.2.2.2.2.2.2.1 ∧ r.2.2.2.2.2.2.2.2.2.2.1.length ≤ 406 ∧ r.2.2.2.2.2.2.2.2.2.2.2.1.length ≤ 10 ∧ LW W_int r.2.2.2.2.2.2.2.2.2.2.2.2.1 ∧ r.2.2.2.2.2.2.2.2.2.2.2.2.1.length ≤ 10 ∧ LW W_int r.2.2.2.2.2.2.2.2.2.2.2.2.2.1 ∧ r.2.2.2.2.2.2.2.2.2.2.2.2.2.1.length ≤ 10 ∧ LW B_Item r.2.2.2.2.2.2.2.2.2.2.2.2.2.2 ∧ r.2.2.2.2.2.2.2.2.2.2.2.2.2.2.length ≤ 6) (spec_DrawHear_l20 k k6 i b0 b1 b2 b3 e0 e1 e2 e3 e4 l3 l8 l9 l10 l)
  | 0, _, _, _, _, _, _, _, _, h, _, _, _, _, _, _, _, _, _, _, _, _, _, _, _, _ => by omega
  | k + 1, i, b0, b1, b2, b3, l, i0, i1, hk, hl6, hl, p0, p1, p2, p4, p5, p6, p7, q0, q1, q2, q3, q4, q5, q7 => by
    have hw : i < (l.length : Int) → IntKind.i64.wrap (i + 1) = i + 1 := fun _ => wr64' (by omega) (by omega)
    unfold spec_DrawHear_l20
    ((repeat' (((with_reducible refine (id ?_ : Ok _ _)); first | (with_reducible refine Ok.chk (by (first | (refine idx_of ?_ ?_ <;> (try simp only [List.length_set, List.length_append, List.length_cons, List.length_nil, List.length_replicate, Nat.zero_add]) <;> omega) | (refine room_of ?_ ?_ <;> (try simp only [List.length_set, List.length_append, List.length_cons, List.length_nil, List.length_replicate, Nat.zero_add]) <;> omega) | assumption | (simp; done) | (simp; omega))) ?_) | ((with_reducible refine Ok.iteT ?_ ?_); (next => first | exact decide_eq_true (by with_reducible rfl) | (refine congrArg not (decide_eq_false ?_); intro h; revert h; dsimp only; decide))) | ((with_reducible refine Ok.iteF ?_ ?_); (next => first | (refine decide_eq_false ?_; intro h; revert h; dsimp only; decide) | exact congrArg not (decide_eq_true (by with_reducible rfl)))) | (with_reducible refine Ok.ite (fun _ => ?_) (fun _ => ?_) <;> (rename_i h; try simp only [decide_eq_true_eq, decide_eq_false_iff_not, Int.not_lt] at h)) | fail | with_reducible refine Ok.ret ?_))))
    · refine hear20 hk6 e0 e1 e2 e3 e4 l3 l8 l9 l10 w3 n3 n8 w9 n9 w10 n10 k _ _ _ _ _ _ ?_ ?_ ?_ (by rw [List.length_set]; exact hl6) (LW.set' hl _ (B_Item.term (LW.rd hl (i := 0 + i.toNat) (by omega)) q5)) p0 p1 p2 p4 p5 p6 p7 q0 q1 q2 q3 q4 q5 q7 <;> (rw [hw (by assumption)]; try rw [List.length_set]) <;> omega
    · refine hear20 hk6 e0 e1 e2 e3 e4 l3 l8 l9 l10 w3 n3 n8 w9 n9 w10 n10 k _ _ _ _ _ _ ?_ ?_ ?_ hl6 hl p0 p1 p2 p4 p5 p6 p7 q0 q1 q2 q3 q4 q5 q7 <;> (rw [hw (by assumption)]; try rw [List.length_set]) <;> omega
    · exact ⟨hk6, p0, p1, p2, p4, p5, p6, p7, q0, q1, q2, q3, q4, q5, q7, w3, n3, n8, w9, n9, w10, n10, hl, hl6⟩
end Go.Eng.R
open Go Go.Eng
namespace Go.Eng.R
set_option maxRecDepth 100000
theorem tmJ {a : Int} (h : I64 a) (b : Int) : I64 (a.tmod b) := by
  have h1 : (a.tmod b).natAbs ≤ a.natAbs := by rw [Int.natAbs_tmod]; exact Nat.mod_le _ _
  unfold I64 at *
  rcases Int.le_total 0 a with h0 | h0
  · have := Int.tmod_nonneg b h0
    omega
  · have h2 : 0 ≤ (-a).tmod b := Int.tmod_nonneg b (by omega)
    rw [Int.neg_tmod] at h2
    omega
theorem hear13b {k6 : Int} (hk6 : I64 k6) (e0 e1 e2 e3 e4 l3 l8 l9 l10 : List V) (k : Nat) (b0 b1 b2 b3 b4 : V) (l : List V) (hc : CurOk b2) (hn : B_Node 10 (nodeV b3 l3 l8 l9 l10)) (hm : B_Msg 6 (msgV b4 l)) (hk : l.length < k) :
    Ok (fun r => I64 r.1 ∧ CurOk r.2.2.2.1 ∧ B_Node 10 (nodeV r.2.2.2.2.1 r.2.2.2.2.2.2.2.2.2.2.2.1 r.2.2.2.2.2.2.2.2.2.2.2.2.1 r.2.2.2.2.2.2.2.2.2.2.2.2.2.1 r.2.2.2.2.2.2.2.2.2.2.2.2.2.2.1) ∧ B_Msg 6 (msgV r.2.2.2.2.2.1 r.2.2.2.2.2.2.2.2.2.2.2.2.2.2.2)) (spec_DrawHear_l13 k k6 0 b0 b1 (n_spec_l1Cur b2) b3 b4 e0 e1 e2 e3 e4 l3 l8 l9 l10 l) := by
  obtain ⟨p0, p1, p2, w3, n3, p4, p5, p6, p7, n8, w9, n9, w10, n10⟩ := hn
  obtain ⟨q0, q1, q2, q3, q4, q5, wl, nl, q7⟩ := hm
  refine (hear13 hk6 e0 e1 e2 e3 e4 l3 l8 l9 l10 w3 n3 n8 w9 n9 w10 n10 k 0 b0 b1 b2 b3 b4 l hc (Int.le_refl _) (by omega) (by omega) nl wl p0 p1 p2 p4 p5 p6 p7 q0 q1 q2 q3 q4 q5 q7).mono ?_
  rintro r ⟨a1, a2, a3, a4, a5, a6, a7, a8, a9, c0, c1, c2, c3, c4, c5, c7, d1, d2, d3, d4, d5, d6, d7, d8, d9⟩
  exact ⟨a1, a2, ⟨a3, a4, a5, d1, d2, a6, a7, a8, a9, d3, d4, d5, d6, d7⟩, ⟨c0, c1, c2, c3, c4, c5, d8, d9, c7⟩⟩
theorem hear20b {k6 : Int} (hk6 : I64 k6) (e0 e1 e2 e3 e4 l3 l8 l9 l10 : List V) (k : Nat) (b0 b1 b2 b3 : V) (l : List V) (hn : B_Node 10 (nodeV b2 l3 l8 l9 l10)) (hm : B_Msg 6 (msgV b3 l)) (hk : l.length < k) :
    Ok (fun r => I64 r.1 ∧ B_Node 10 (nodeV r.2.2.2.1 r.2.2.2.2.2.2.2.2.2.2.1 r.2.2.2.2.2.2.2.2.2.2.2.1 r.2.2.2.2.2.2.2.2.2.2.2.2.1 r.2.2.2.2.2.2.2.2.2.2.2.2.2.1) ∧ B_Msg 6 (msgV r.2.2.2.2.1 r.2.2.2.2.2.2.2.2.2.2.2.2.2.2)) (spec_DrawHear_l20 k k6 0 b0 b1 b2 b3 e0 e1 e2 e3 e4 l3 l8 l9 l10 l) := by
  obtain ⟨p0, p1, p2, w3, n3, p4, p5, p6, p7, n8, w9, n9, w10, n10⟩ := hn
  obtain ⟨q0, q1, q2, q3, q4, q5, wl, nl, q7⟩ := hm
  refine (hear20 hk6 e0 e1 e2 e3 e4 l3 l8 l9 l10 w3 n3 n8 w9 n9 w10 n10 k 0 b0 b1 b2 b3 l (Int.le_refl _) (by omega) (by omega) nl wl p0 p1 p2 p4 p5 p6 p7 q0 q1 q2 q3 q4 q5 q7).mono ?_
  rintro r ⟨a1, a3, a4, a5, a6, a7, a8, a9, c0, c1, c2, c3, c4, c5, c7, d1, d2, d3, d4, d5, d6, d7, d8, d9⟩
  exact ⟨a1, ⟨a3, a4, a5, d1, d2, a6, a7, a8, a9, d3, d4, d5, d6, d7⟩, ⟨c0, c1, c2, c3, c4, c5, d8, d9, c7⟩⟩
def PH (r : V × Int × V) : Prop := B_Node 10 r.1 ∧ I64 r.2.1 ∧ B_Msg 6 r.2.2
theorem B_Node.set {n : V} (h : B_Node 10 n) : B_Node 10 (n_impl_Node n) := h
theorem tailH_O {k : Int} (hk : I64 k) {c N M : V} (hc : CurOk c) (hN : B_Node 10 N) (hM : B_Msg 6 M) (b0 b1 : V) (e0 e1 e2 e3 e4 : List V) : Ok PH (tailH k c N M b0 b1 e0 e1 e2 e3 e4) := by
  have raw : Ok PH (some ((n_impl_Node N), k, (n_impl_Msg M))) := ⟨_, rfl, hN, hk, hM⟩
  have hlen : (((gl M 6).length : Int) - 0).toNat = (gl M 6).length := by omega
  unfold tailH
  cases decide (gi M 0 = 2) with
  | false => exact raw
  | true =>
  cases decide (gi M 4 ≤ (((gl N 3).length : Nat) : Int)) with
  | false => exact raw
  | true =>
  cases decide ((0 : Int) < gi M 4) with
  | false => exact raw
  | true =>
  simp only [cond_true]
  refine Ok.bind (once_O hc 2) ?_
  rintro ⟨b, c2⟩ hc2
  cases b with
  | false => exact raw
  | true =>
  simp only [cond_true]
  refine Ok.bind (termAt_O hN.2.2.2.1 _) ?_
  intro r hr
  obtain ⟨q0, q1, q2, q3, q4, q5, wl, nl, q7⟩ := hM
  rw [hlen]
  refine Ok.bind (hear20b hk e0 e1 e2 e3 e4 (gl N 3) (gl N 8) (gl N 9) (gl N 10) _ b0 b1 _ _ (gl M 6) ?_ ?_ (Nat.lt_succ_self _)) ?_
  · exact hN
  · exact ⟨q0, q1, q2, q3, q4, hr, wl, nl, q7⟩
  · rintro s ⟨s1, s2, s3⟩
    obtain ⟨t0, t1, t2, t3, t4, t5, tl, tn, t7⟩ := s3
    cases decide (gi s.2.2.2.2.1 3 < gi s.2.2.2.2.1 5) with
    | true => exact ⟨_, rfl, s2, s1, ⟨t0, t1, t2, t5, t4, t5, tl, tn, t7⟩⟩
    | false => exact ⟨_, rfl, s2, s1, ⟨t0, t1, t2, t3, t4, t5, tl, tn, t7⟩⟩
theorem midH_O {k : Int} (hk : I64 k) {c N M : V} (hc : CurOk c) (hN : B_Node 10 N) (hM : B_Msg 6 M) : Ok PH (midH k c N M) := by
  have hlen : (((gl M 6).length : Int) - 0).toNat = (gl M 6).length := by omega
  obtain ⟨q0, q1, q2, q3, q4, q5, wl, nl, q7⟩ := hM
  unfold midH
  refine Ok.bind (once_O hc 2) ?_
  rintro ⟨b, c2⟩ hc2
  cases b with
  | false => exact tailH_O hk hc2 hN ⟨q0, q1, q2, q3, q4, q5, wl, nl, q7⟩ _ _ _ _ _ _ _
  | true =>
  simp only [cond_true]
  cases decide ((0 : Int) < gi N 1) with
  | false => exact tailH_O hk hc2 hN ⟨q0, q1, q2, q3, q4, q5, wl, nl, q7⟩ _ _ _ _ _ _ _
  | true =>
  simp only [cond_true]
  rw [hlen]
  cases decide (gi N 1 < gi M 5) with
  | true =>
    refine Ok.bind (hear13b hk [] [] [] [] [] (gl N 3) (gl N 8) (gl N 9) (gl N 10) _ _ _ c2 _ _ (gl M 6) hc2 ?_ ?_ (Nat.lt_succ_self _)) ?_
    · exact hN
    · exact ⟨q0, q1, q2, hN.2.1, q4, hN.2.1, wl, nl, q7⟩
    · rintro s ⟨s1, s2, s3, s4⟩
      exact tailH_O s1 s2 s3 s4 _ _ _ _ _ _ _
  | false =>
    refine Ok.bind (hear13b hk [] [] [] [] [] (gl N 3) (gl N 8) (gl N 9) (gl N 10) _ _ _ c2 _ _ (gl M 6) hc2 ?_ ?_ (Nat.lt_succ_self _)) ?_
    · exact hN
    · exact ⟨q0, q1, q2, hN.2.1, q4, q5, wl, nl, q7⟩
    · rintro s ⟨s1, s2, s3, s4⟩
      exact tailH_O s1 s2 s3 s4 _ _ _ _ _ _ _
theorem drawHear_O {code : List V} (h : LW W_byte code) : Ok PH (spec_DrawHear code) := by
  unfold spec_DrawHear
  refine Ok.bind (new_O h) ?_
  intro c0 h0
  refine Ok.bind2 (count_O h0) ?_
  rintro k c1 ⟨h1, k1, k5⟩
  have hk : I64 k := by unfold I64; omega
  refine Ok.bind2 (nbent_O h1 k1 k5) ?_
  rintro N c2 ⟨h2, hN⟩
  refine Ok.bind2 (mbent_O h2) ?_
  rintro M c3 ⟨h3, hM⟩
  refine Ok.bind (once_O h3 9) ?_
  rintro ⟨b, c4⟩ h4
  cases b with
  | true => exact midH_O hk h4 hN hM
  | false =>
  simp only [Bool.not_false, cond_true]
  by_cases hk1 : (1 : Int) < k
  case neg => rw [decide_eq_false hk1]; exact midH_O hk h4 hN hM
  rw [decide_eq_true hk1, wr64' (n := k - 1) (by omega) (by omega)]
  obtain ⟨x, c5, e, h5, x0, x1⟩ := below_ok h4 (n := k - 1) (by omega)
  simp only [cond_true, e, Option.bind_some]
  rw [decide_eq_false (show ¬ k = 0 by omega)]
  obtain ⟨q0, q1, q2, q3, q4, q5, wl, nl, q7⟩ := hM
  exact midH_O hk h5 hN ⟨q0, tmJ (wrI _) _, hN.1, q3, q4, q5, wl, nl, q7⟩
end Go.Eng.R
open Go Go.Eng
namespace Go.Eng.R
def chB (x : V) : Bool := !decide (gi x 0 < 97) && !decide (122 < gi x 0) || decide (gi x 0 = 47)
theorem all_take_succ {p : V → Bool} {l : List V} {i : Nat} (h : i < l.length) : (l.take (i + 1)).all p = ((l.take i).all p && p (rd l i)) := by
  rw [List.take_add_one, List.all_append]
  have : l[i]? = some (rd l i) := by simp [rd, List.getD, h]
  rw [this]; simp
theorem all_rd_false {p : V → Bool} {l : List V} {i : Nat} (h : i < l.length) (hp : p (rd l i) = false) : l.all p = false := by
  rw [List.all_eq_false]
  refine ⟨rd l i, ?_, by simp [hp]⟩
  have : rd l i = l[i] := by simp [rd, List.getD, h]
  rw [this]; exact List.getElem_mem h
theorem all_loop {ρ : Type} {F : Nat → Int → ρ} {l : List V} {p : V → Bool} {yes no : ρ}
    (h1 : ∀ m (i : Nat), i < l.length → F (m + 1) (i : Int) = bif p (rd l i) then F m ((i + 1 : Nat) : Int) else no) (h0 : ∀ m, F (m + 1) (l.length : Int) = yes) :
    F (l.length + 1) 0 = bif l.all p then yes else no := by
  refine loop_run0 (F := fun m (_ : Unit) i => F m i) (n := l.length) (fun i _ => (l.take i).all p = true) (fun o => o = bif l.all p then yes else no) ?_ ?_ (s := ()) (by simp)
  · intro m i s hi hI
    rw [h1 m i hi]
    cases hp : p (rd l i) with
    | true => exact .inl ⟨(), rfl, by rw [all_take_succ hi, hI, hp]; rfl⟩
    | false => exact .inr (by rw [all_rd_false hi hp]; rfl)
  · intro m s hI
    rw [List.take_length] at hI
    rw [hI]; exact h0 m
def keyB (b : List V) : Bool := decide (1 ≤ b.length) && (decide (b.length ≤ 20) && b.all chB)
theorem spec_l2key_eq {b : List V} (hb : LW W_byte b) : spec_l2key b = some (keyB b) := by
  have hl := hb.1
  unfold spec_l2key keyB
  by_cases h1 : 1 ≤ b.length
  · by_cases h2 : b.length ≤ 20
    · rw [show decide (((b.length : Nat) : Int) < 1) = false from by simp; omega, show decide ((20 : Int) < ((b.length : Nat) : Int)) = false from by simp; omega, cond_false, cond_false, fuel_eq,
        all_loop (F := fun m i => spec_l2key_l4 m b i) (l := b) (p := chB) (yes := some (1, false)) (no := some (0, false)) ?_ ?_]
      · simp only [h1, h2, decide_true, Bool.true_and]
        cases b.all chB <;> rfl
      · intro m i hi
        simp only [spec_l2key_l4, lt_nat hi, idxOk_nat hi, Int.toNat_natCast, cond_true, wr_succ hi hl, chB]
        cases decide (gi (rd b i) 0 < 97) <;> cases decide (122 < gi (rd b i) 0) <;> cases decide (gi (rd b i) 0 = 47) <;> rfl
      · intro m; simp only [spec_l2key_l4, lt_self, cond_false]
    · rw [show decide (((b.length : Nat) : Int) < 1) = false from by simp; omega, show decide ((20 : Int) < ((b.length : Nat) : Int)) = true from by simp; omega]
      simp [h2]
  · rw [show decide (((b.length : Nat) : Int) < 1) = true from by simp; omega]
    simp [h1]
theorem within_eq (n lo hi : Int) : impl_within n lo hi = decide (lo ≤ n ∧ n ≤ hi) := by
  unfold impl_within
  by_cases h : lo ≤ n <;> simp [h]
theorem impl_KeyOk_eq {b : List V} (hb : LW W_byte b) : impl_KeyOk b = some (keyB b) := by
  have hl := hb.1
  unfold impl_KeyOk keyB
  rw [fuel_eq, all_loop (F := fun m i => impl_KeyOk_l2 m b b ((b.length : Nat) : Int) i) (l := b) (p := chB) (yes := some (1, b, false)) (no := some (0, b, false)) ?_ ?_]
  · cases b.all chB with
    | true => simp only [cond_true, Option.bind_some, within_eq]; simp [Nat.beq]; by_cases h1 : 1 ≤ b.length <;> by_cases h2 : b.length ≤ 20 <;> simp [h1, h2] <;> omega
    | false => simp [Nat.beq]
  · intro m i hi
    simp only [impl_KeyOk_l2, lt_nat hi, idxOk_nat hi, Int.toNat_natCast, cond_true, wr_succ hi hl, chB]
    cases decide (gi (rd b i) 0 < 97) <;> cases decide (122 < gi (rd b i) 0) <;> cases decide (gi (rd b i) 0 = 47) <;> rfl
  · intro m; simp only [impl_KeyOk_l2, lt_self, cond_false]
def opB (k : Int) (key : Bool) (nk nv : Nat) (n : Int) : Bool :=
  decide (nv ≤ 20) && (decide (0 ≤ n ∧ n ≤ 1000000) &&
    (bif decide (k = 1 ∨ k = 2 ∨ k = 3 ∨ k = 6 ∨ k = 7) then key else decide (nk = 0)) &&
    ((bif decide (k = 1 ∨ k = 2 ∨ k = 6) then true else decide (nv = 0)) &&
    ((bif decide (k = 0 ∨ k = 1 ∨ k = 3) then decide (n = 0) else bif decide (k = 4) then decide (n ≤ 1) else bif decide (k = 2) then true else decide (1 ≤ n)) && decide (0 ≤ k ∧ k ≤ 7))))
theorem impl_OpOk_eq {o : V} (ho : W_Op o) : impl_OpOk o = some (opB (gi o 0) (keyB (gl o 1)) (gl o 1).length (gl o 2).length (gi o 3)) := by
  unfold impl_OpOk
  rw [impl_KeyOk_eq ho.2.1]
  simp only [within_eq, impl_isValue, Option.bind_some]
  generalize gi o 0 = k
  generalize keyB (gl o 1) = key
  generalize (gl o 1).length = nk
  generalize (gl o 2).length = nv
  generalize gi o 3 = n
  by_cases hk : 0 ≤ k ∧ k ≤ 7
  · obtain rfl | rfl | rfl | rfl | rfl | rfl | rfl | rfl : k = 0 ∨ k = 1 ∨ k = 2 ∨ k = 3 ∨ k = 4 ∨ k = 5 ∨ k = 6 ∨ k = 7 := by omega
    all_goals (cases key <;> simp [opB, Bool.cond_eq_ite] <;> (repeat' split) <;> simp_all <;> first | omega | (rw [Bool.eq_iff_iff]; simp; omega))
  · have hh : decide (0 ≤ k ∧ k ≤ 7) = false := by simpa using hk
    have h0 : decide (k = 0) = false := by simp; omega
    have h1 : decide (k = 1) = false := by simp; omega
    have h2 : decide (k = 2) = false := by simp; omega
    have h3 : decide (k = 3) = false := by simp; omega
    have h4 : decide (k = 4) = false := by simp; omega
    have h5 : decide (k = 5) = false := by simp; omega
    have h6 : decide (k = 6) = false := by simp; omega
    have h7 : decide (k = 7) = false := by simp; omega
    simp only [opB, hh, h0, h1, h2, h3, h4, h5, h6, h7, cond_false, Bool.and_false]
theorem spec_OpOk_eq {o : V} (ho : W_Op o) : spec_OpOk o = some (opB (gi o 0) (keyB (gl o 1)) (gl o 1).length (gl o 2).length (gi o 3)) := by
  unfold spec_OpOk
  rw [spec_l2key_eq ho.2.1]
  simp only [spec_l2val, spec_l2index, Option.bind_some]
  generalize gi o 0 = k
  generalize keyB (gl o 1) = key
  generalize (gl o 1).length = nk
  generalize (gl o 2).length = nv
  generalize gi o 3 = n
  by_cases hk : 0 ≤ k ∧ k ≤ 7
  · obtain rfl | rfl | rfl | rfl | rfl | rfl | rfl | rfl : k = 0 ∨ k = 1 ∨ k = 2 ∨ k = 3 ∨ k = 4 ∨ k = 5 ∨ k = 6 ∨ k = 7 := by omega
    all_goals (cases key <;> simp [opB, Bool.cond_eq_ite] <;> (repeat' split) <;> simp_all <;> omega)
  · have hh : decide (0 ≤ k ∧ k ≤ 7) = false := by simpa using hk
    simp only [opB, hh, Bool.and_false]
    by_cases h : k < 0
    · simp [h]
    · rw [show decide (k < 0) = false from by simpa using h, show decide (7 < k) = true from by simp; omega]; rfl
def cmdB (c : V) : Bool :=
  bif decide (gi c 0 = -1) then decide (gi c 1 = 0) && (decide (gi c 2 = 0) && opB (gi c 2) (keyB (gl c 3)) (gl c 3).length (gl c 4).length (gi c 5))
  else decide (0 ≤ gi c 0 ∧ gi c 0 ≤ 3) && (decide (1 ≤ gi c 1 ∧ gi c 1 ≤ 1000000) && opB (gi c 2) (keyB (gl c 3)) (gl c 3).length (gl c 4).length (gi c 5))
theorem spec_CmdOk_eq {c : V} (hc : W_Cmd c) : spec_CmdOk c = some (cmdB c) := by
  unfold spec_CmdOk
  rw [spec_OpOk_eq (o := V.agg [(V.int .i64 (gi c 2)), (V.inl t_byte (gl c 3)), (V.inl t_byte (gl c 4)), (V.int .i64 (gi c 5))]) hc.2.2]
  simp only [Option.bind_some, gi_c0, gi_cs, gl_c0, gl_cs, cmdB]
  generalize opB _ _ _ _ _ = z
  by_cases h1 : gi c 0 = -1
  · simp only [h1, decide_true, cond_true]
    by_cases h2 : gi c 1 = 0 <;> by_cases h3 : gi c 2 = 0 <;> simp [h2, h3]
  · simp only [h1, decide_false, cond_false]
    by_cases h2 : 0 ≤ gi c 0 <;> by_cases h3 : gi c 0 < 4 <;> by_cases h4 : 1 ≤ gi c 1 <;> by_cases h5 : gi c 1 ≤ 1000000 <;> simp [h2, h3, h4, h5] <;> omega
theorem eqList_nil (l : List V) : eqList (l.map normB) [] = decide (l.length = 0) := by cases l <;> simp [eqList]
theorem impl_same_noOp (c : V) : impl_Cmd_same (n_impl_Cmd c) (n_impl_Cmd impl_noOp) = (decide (gi c 0 = -1) && (decide (gi c 1 = 0) && (decide (gi c 2 = 0) && (decide ((gl c 3).length = 0) && (decide ((gl c 4).length = 0) && decide (gi c 5 = 0)))))) := by
  simp only [impl_Cmd_same, impl_Op_same, impl_noOp, n_impl_Cmd, gi_c0, gi_cs, gl_c0, gl_cs, bytes_Equal, List.map_nil, eqList_nil]
  by_cases h0 : gi c 0 = -1 <;> by_cases h1 : gi c 1 = 0 <;> by_cases h2 : gi c 2 = 0 <;> by_cases h3 : (gl c 3).length = 0 <;> by_cases h4 : (gl c 4).length = 0 <;> simp [h0, h1, h2, h3, h4] <;> rfl
theorem impl_CmdOk_eq {c : V} (hc : W_Cmd c) : impl_CmdOk c = some (cmdB c) := by
  unfold impl_CmdOk
  rw [impl_OpOk_eq (o := V.agg [(V.int .i64 (gi c 2)), (V.inl t_byte (gl c 3)), (V.inl t_byte (gl c 4)), (V.int .i64 (gi c 5))]) hc.2.2, impl_same_noOp]
  simp only [Option.bind_some, gi_c0, gi_cs, gl_c0, gl_cs, cmdB, within_eq]
  by_cases h1 : gi c 0 = -1
  · simp only [h1, decide_true, cond_true, Bool.true_and]
    rw [show decide (0 ≤ (-1 : Int) ∧ (-1 : Int) ≤ 3) = false from rfl]
    by_cases h2 : gi c 1 = 0 <;> by_cases h3 : gi c 2 = 0 <;> simp only [h2, h3, decide_true, decide_false, Bool.true_and, Bool.false_and, cond_false]
    simp only [opB]
    by_cases a3 : (gl c 3).length = 0 <;> by_cases a4 : (gl c 4).length = 0 <;> by_cases a5 : gi c 5 = 0 <;> simp [a3, a4, a5]
  · simp only [h1, decide_false, cond_false, Bool.false_and]
    generalize opB _ _ _ _ _ = z
    by_cases h2 : 0 ≤ gi c 0 ∧ gi c 0 ≤ 3 <;> by_cases h3 : 1 ≤ gi c 1 ∧ gi c 1 ≤ 1000000 <;> simp [h2, h3]
def itemB (x : V) : Bool := decide (1 ≤ gi x 0 ∧ gi x 0 ≤ 100000) && cmdB (V.agg [(V.int .i64 (gi x 1)), (V.int .i64 (gi x 2)), (V.int .i64 (gi x 3)), (V.inl t_byte (gl x 4)), (V.inl t_byte (gl x 5)), (V.int .i64 (gi x 6))])
theorem spec_ItemOk_eq {x : V} (hx : W_Item x) : spec_ItemOk x = some (itemB x) := by
  unfold spec_ItemOk itemB
  rw [spec_CmdOk_eq (c := V.agg [(V.int .i64 (gi x 1)), (V.int .i64 (gi x 2)), (V.int .i64 (gi x 3)), (V.inl t_byte (gl x 4)), (V.inl t_byte (gl x 5)), (V.int .i64 (gi x 6))]) hx.2]
  by_cases h1 : 1 ≤ gi x 0 <;> by_cases h2 : gi x 0 ≤ 100000 <;> simp [h1, h2]
theorem impl_ItemOk_eq {x : V} (hx : W_Item x) : impl_ItemOk x = some (itemB x) := by
  unfold impl_ItemOk itemB impl_isTerm
  rw [impl_CmdOk_eq (c := V.agg [(V.int .i64 (gi x 1)), (V.int .i64 (gi x 2)), (V.int .i64 (gi x 3)), (V.inl t_byte (gl x 4)), (V.inl t_byte (gl x 5)), (V.int .i64 (gi x 6))]) hx.2, within_eq]
  by_cases h1 : 1 ≤ gi x 0 ∧ gi x 0 ≤ 100000 <;> simp [h1]
end Go.Eng.R
open Go Go.Eng
namespace Go.Eng.R
open Classical
theorem range_all_succ {p : Nat → Bool} {i : Nat} : (List.range (i + 1)).all p = ((List.range i).all p && p i) := by
  rw [List.range_succ, List.all_append]; simp
theorem range_all_false {p : Nat → Bool} {i n : Nat} (h : i < n) (hp : p i = false) : (List.range n).all p = false := by
  rw [List.all_eq_false]
  exact ⟨i, List.mem_range.2 h, by simp [hp]⟩
theorem all_run {σ ρ : Type} {F : Nat → σ → Int → ρ} {n : Nat} {p : Nat → Bool} {yes no : ρ} (I : Nat → σ → Prop)
    (h1 : ∀ m i s, i < n → I i s → (p i = true ∧ ∃ s', F (m + 1) s (i : Int) = F m s' ((i + 1 : Nat) : Int) ∧ I (i + 1) s') ∨ (p i = false ∧ F (m + 1) s (i : Int) = no))
    (h0 : ∀ m s, I n s → F (m + 1) s (n : Int) = yes) {s : σ} (hs : I 0 s) : F (n + 1) s 0 = bif (List.range n).all p then yes else no := by
  refine loop_run0 (F := F) (n := n) (fun i s => (List.range i).all p = true ∧ I i s) (fun o => o = bif (List.range n).all p then yes else no) ?_ ?_ (s := s) ⟨by simp, hs⟩
  · intro m i s hi hI
    rcases h1 m i s hi hI.2 with ⟨hp, s', e, hI'⟩ | ⟨hp, e⟩
    · exact .inl ⟨s', e, by rw [range_all_succ, hI.1, hp]; rfl, hI'⟩
    · exact .inr (by rw [e, range_all_false hi hp]; rfl)
  · intro m s hI
    rw [hI.1]; exact h0 m s hI.2
theorem all_range {ρ : Type} {F : Nat → Int → ρ} {n : Nat} {p : Nat → Bool} {yes no : ρ}
    (h1 : ∀ m i, i < n → F (m + 1) (i : Int) = bif p i then F m ((i + 1 : Nat) : Int) else no) (h0 : ∀ m, F (m + 1) (n : Int) = yes) : F (n + 1) 0 = bif (List.range n).all p then yes else no := by
  refine all_run (F := fun m (_ : Unit) i => F m i) (fun _ _ => True) (fun m i s hi _ => ?_) (fun m _ _ => h0 m) (s := ()) trivial
  have := h1 m i hi
  cases hp : p i with
  | true => exact .inl ⟨rfl, (), by rw [this, hp]; rfl, trivial⟩
  | false => exact .inr ⟨rfl, by rw [this, hp]; rfl⟩
theorem chk {c b : Bool} {rest : Option Bool} (h1 : c = true → b = false) (h2 : c = false → rest = some b) : (bif c then some false else rest) = some b := by
  cases c with
  | true => rw [h1 rfl]; rfl
  | false => exact h2 rfl
def logB (n : V) (i : Nat) : Bool := itemB (rd (gl n 3) i) && (decide (gi (rd (gl n 3) i) 0 ≤ gi n 1) && (decide (i = 0) || decide (gi (rd (gl n 3) (i - 1)) 0 ≤ gi (rd (gl n 3) i) 0)))
def cellB (n : V) (i : Nat) : Bool :=
  bif decide (gi n 5 = 2) then decide (1 ≤ gi (rd (gl n 9) i) 0 ∧ gi (rd (gl n 9) i) 0 ≤ ((gl n 3).length : Int) + 1) && decide (0 ≤ gi (rd (gl n 10) i) 0 ∧ gi (rd (gl n 10) i) 0 ≤ ((gl n 3).length : Int))
  else decide (gi (rd (gl n 9) i) 0 = 0) && decide (gi (rd (gl n 10) i) 0 = 0)
def voteB (n : V) (i : Nat) : Bool := !(decide (gi n 5 = 0)) || !(gb (rd (gl n 8) i) 0)
structure NodeP (n : V) (k : Int) : Prop where
  k1 : 1 ≤ k
  k5 : k ≤ 5
  id0 : 0 ≤ gi n 0
  idk : gi n 0 < k
  term0 : 0 ≤ gi n 1
  term1 : gi n 1 ≤ 100000
  vote0 : -1 ≤ gi n 2
  votek : gi n 2 < k
  lead0 : -1 ≤ gi n 6
  leadk : gi n 6 < k
  len : ((gl n 3).length : Int) ≤ 400
  com0 : 0 ≤ gi n 4
  com1 : gi n 4 ≤ ((gl n 3).length : Int)
  role0 : 0 ≤ gi n 5
  role2 : gi n 5 ≤ 2
  wait0 : 0 ≤ gi n 7
  wait1 : gi n 7 ≤ 20
  lvotes : ((gl n 8).length : Int) = k
  lnext : ((gl n 9).length : Int) = k
  lmatch : ((gl n 10).length : Int) = k
  items : (List.range (gl n 3).length).all (logB n) = true
  cells : (List.range (gl n 9).length).all (cellB n) = true
  votes : (List.range (gl n 8).length).all (voteB n) = true
  stands : gi n 5 ≠ 0 → 1 ≤ gi n 1 ∧ gi n 2 = gi n 0
  leads : gi n 5 = 2 → gi n 6 = gi n 0
noncomputable def nodeB (n : V) (k : Int) : Bool := decide (NodeP n k)
theorem nodeB_false {n : V} {k : Int} (h : NodeP n k → False) : nodeB n k = false := decide_eq_false h
theorem spec_log_run {n : V} (hn : W_Node n) (servers : Int) : spec_NodeOk_l4 ((gl n 3).length + 1) servers 0 (n_impl_Node n) =
    bif (List.range (gl n 3).length).all (logB n) then some (1, servers, false, n_impl_Node n) else some (0, servers, false, n_impl_Node n) := by
  have hl := hn.2.2.2.1.1
  refine all_range (F := fun m i => spec_NodeOk_l4 m servers i (n_impl_Node n)) (fun m i hi => ?_) (fun m => ?_)
  · have e : spec_ItemOk (n_impl_Item (rd (gl n 3) i)) = some (itemB (rd (gl n 3) i)) := spec_ItemOk_eq (x := n_impl_Item (rd (gl n 3) i)) (hn.2.2.2.1.rd hi)
    show spec_NodeOk_l4 (m + 1) servers i (n_impl_Node n) = _
    rw [spec_NodeOk_l4]
    simp only [show gl (n_impl_Node n) 3 = gl n 3 from rfl, show gi (n_impl_Node n) 1 = gi n 1 from rfl, lt_nat hi, idxOk_nat hi, Int.toNat_natCast, cond_true, e, Option.bind_some, logB, wr_succ hi hl]
    cases hit : itemB (rd (gl n 3) i) with
    | false => rfl
    | true =>
      simp only [Bool.not_true, cond_false, Bool.true_and]
      by_cases h1 : gi (rd (gl n 3) i) 0 ≤ gi n 1
      · rw [show decide (gi n 1 < gi (rd (gl n 3) i) 0) = false from by simp; omega, cond_false, decide_eq_true h1, Bool.true_and]
        cases i with
        | zero => simp; rfl
        | succ j =>
          have hj : j < (gl n 3).length := by omega
          have ew : IntKind.i64.wrap (((j + 1 : Nat) : Int) - 1) = ((j : Nat) : Int) := by rw [wr64' (by omega) (by omega)]; omega
          rw [show decide ((0 : Int) < ((j + 1 : Nat) : Int)) = true from decide_eq_true (by omega), cond_true, ew, idxOk_nat hj, cond_true, Int.toNat_natCast, show decide (j + 1 = 0) = false from by simp, Bool.false_or, Nat.add_sub_cancel]
          by_cases h2 : gi (rd (gl n 3) j) 0 ≤ gi (rd (gl n 3) (j + 1)) 0
          · rw [show decide (gi (rd (gl n 3) (j + 1)) 0 < gi (rd (gl n 3) j) 0) = false from by simp; omega, decide_eq_true h2]; rfl
          · rw [show decide (gi (rd (gl n 3) (j + 1)) 0 < gi (rd (gl n 3) j) 0) = true from by simp; omega, decide_eq_false h2]; rfl
      · rw [show decide (gi n 1 < gi (rd (gl n 3) i) 0) = true from by simp; omega, decide_eq_false h1]; rfl
  · show spec_NodeOk_l4 (m + 1) servers _ (n_impl_Node n) = _
    rw [spec_NodeOk_l4]
    simp only [show gl (n_impl_Node n) 3 = gl n 3 from rfl, lt_self, cond_false]
    rfl
theorem impl_log_run {n : V} (hn : W_Node n) (servers : Int) : impl_NodeOk_l5 ((gl n 3).length + 1) servers 1 (gl n 3) ((gl n 3).length : Int) 0 (n_impl_Node n) =
    bif (List.range (gl n 3).length).all (logB n) then some (1, servers, false, n_impl_Node n) else some (0, servers, false, n_impl_Node n) := by
  have hl := hn.2.2.2.1.1
  refine all_run (F := fun m t i => impl_NodeOk_l5 m servers t (gl n 3) ((gl n 3).length : Int) i (n_impl_Node n)) (fun i t => t = if i = 0 then 1 else gi (rd (gl n 3) (i - 1)) 0) (fun m i t hi ht => ?_) (fun m t ht => ?_) rfl
  · have e : impl_ItemOk (n_impl_Item (rd (gl n 3) i)) = some (itemB (rd (gl n 3) i)) := impl_ItemOk_eq (x := n_impl_Item (rd (gl n 3) i)) (hn.2.2.2.1.rd hi)
    have e0 : impl_NodeOk_l5 (m + 1) servers t (gl n 3) ((gl n 3).length : Int) i (n_impl_Node n) = bif (!(itemB (rd (gl n 3) i))) then some (0, servers, false, n_impl_Node n) else bif (!(decide (t ≤ gi (rd (gl n 3) i) 0 ∧ gi (rd (gl n 3) i) 0 ≤ gi n 1))) then some (0, servers, false, n_impl_Node n)
        else impl_NodeOk_l5 m servers (gi (rd (gl n 3) i) 0) (gl n 3) ((gl n 3).length : Int) ((i + 1 : Nat) : Int) (n_impl_Node n) := by
      rw [impl_NodeOk_l5]
      simp only [lt_nat hi, idxOk_nat hi, Int.toNat_natCast, cond_true, e, Option.bind_some, wr_succ hi hl, within_eq]
      rfl
    have hterm : itemB (rd (gl n 3) i) = true → 1 ≤ gi (rd (gl n 3) i) 0 := fun h => by
      simp only [itemB, Bool.and_eq_true, decide_eq_true_eq] at h; exact h.1.1
    cases hp : logB n i with
    | true =>
      refine .inl ⟨rfl, _, ?_, by simp; rfl⟩
      simp only [logB, Bool.and_eq_true, decide_eq_true_eq, Bool.or_eq_true] at hp
      obtain ⟨p1, p2, p3⟩ := hp
      rw [e0, p1]
      have : t ≤ gi (rd (gl n 3) i) 0 ∧ gi (rd (gl n 3) i) 0 ≤ gi n 1 := by
        refine ⟨?_, p2⟩
        subst ht
        have := hterm p1
        split
        · exact this
        · rename_i h; rcases p3 with h' | h'
          · exact absurd h' h
          · exact h'
      rw [decide_eq_true this]; rfl
    | false =>
      refine .inr ⟨rfl, ?_⟩
      rw [e0]
      cases p1 : itemB (rd (gl n 3) i) with
      | false => rfl
      | true =>
        have : ¬ (t ≤ gi (rd (gl n 3) i) 0 ∧ gi (rd (gl n 3) i) 0 ≤ gi n 1) := by
          rintro ⟨h1, h2⟩
          rw [logB, p1, decide_eq_true h2, Bool.true_and, Bool.true_and] at hp
          subst ht
          by_cases h0 : i = 0
          · simp [h0] at hp
          · rw [if_neg h0] at h1
            simp [h1] at hp
        rw [decide_eq_false this]; rfl
  · show impl_NodeOk_l5 (m + 1) servers t _ _ _ (n_impl_Node n) = _
    rw [impl_NodeOk_l5]
    simp only [lt_self, cond_false]
    rfl
theorem lt_not (a b : Int) : decide (a < b) = !decide (b ≤ a) := by by_cases h : a < b <;> simp [h] <;> omega
theorem spec_cell_run {n : V} (hn : W_Node n) {N : Nat} (h8 : (gl n 8).length = N) (h9 : (gl n 9).length = N) (h10 : (gl n 10).length = N) (hlog : (gl n 3).length ≤ 400) : spec_NodeOk_l11 (N + 1) (N : Int) 0 (n_impl_Node n) =
    bif (List.range N).all (fun i => cellB n i && voteB n i) then some (1, false, n_impl_Node n) else some (0, false, n_impl_Node n) := by
  have hl := hn.2.2.2.2.2.2.2.2.1.1
  rw [h8] at hl
  refine all_range (F := fun m i => spec_NodeOk_l11 m (N : Int) i (n_impl_Node n)) (fun m i hi => ?_) (fun m => ?_)
  · have i8 : idxOk (i : Int) (gl n 8).length = true := idxOk_nat (by omega)
    have i9 : idxOk (i : Int) (gl n 9).length = true := idxOk_nat (by omega)
    have i10 : idxOk (i : Int) (gl n 10).length = true := idxOk_nat (by omega)
    show spec_NodeOk_l11 (m + 1) (N : Int) i (n_impl_Node n) = _
    rw [spec_NodeOk_l11]
    simp only [show gl (n_impl_Node n) 8 = gl n 8 from rfl, show gl (n_impl_Node n) 9 = gl n 9 from rfl, show gl (n_impl_Node n) 10 = gl n 10 from rfl, show gi (n_impl_Node n) 5 = gi n 5 from rfl, lt_nat hi, i8, i9, i10, Int.toNat_natCast, cond_true, wr_succ hi hl, show n_impl_Node (n_impl_Node n) = n_impl_Node n from rfl, show gl (n_impl_Node n) 3 = gl n 3 from rfl]
    rw [wr64' (n := ((gl n 3).length : Int) + 1) (by omega) (by omega)]
    simp only [cellB, voteB]
    generalize spec_NodeOk_l11 m _ _ _ = R
    generalize gi (rd (gl n 9) i) 0 = a
    generalize gi (rd (gl n 10) i) 0 = b
    generalize gb (rd (gl n 8) i) 0 = v
    generalize ((gl n 3).length : Int) = L
    by_cases h2 : gi n 5 = 2
    · have h0 : ¬ gi n 5 = 0 := by omega
      simp only [h2, decide_true, cond_true, Bool.not_true, cond_false, show decide ((2 : Int) = 0) = false from rfl, Bool.not_false, Bool.true_or, Bool.and_true]
      simp only [lt_not, Bool.decide_and]
      cases decide (1 ≤ a) <;> cases decide (a ≤ L + 1) <;> cases decide (0 ≤ b) <;> cases decide (b ≤ L) <;> rfl
    · simp only [h2, decide_false, cond_false, Bool.not_false, cond_true]
      by_cases a1 : a = 0 <;> by_cases a2 : b = 0 <;> by_cases a3 : gi n 5 = 0 <;> cases v <;> simp [a1, a2, a3]
  · show spec_NodeOk_l11 (m + 1) _ _ (n_impl_Node n) = _
    rw [spec_NodeOk_l11]
    simp only [lt_self, cond_false]
    rfl
theorem impl_cell_run {n : V} (hn : W_Node n) {N : Nat} (h8 : (gl n 8).length = N) (h9 : (gl n 9).length = N) (h10 : (gl n 10).length = N) (hlog : (gl n 3).length ≤ 400) : impl_NodeOk_l16 (N + 1) (N : Int) 0 (n_impl_Node n) =
    bif (List.range N).all (cellB n) then some (1, false) else some (0, false) := by
  have hl := hn.2.2.2.2.2.2.2.2.1.1
  rw [h8] at hl
  refine all_range (F := fun m i => impl_NodeOk_l16 m (N : Int) i (n_impl_Node n)) (fun m i hi => ?_) (fun m => ?_)
  · have i9 : idxOk (i : Int) (gl n 9).length = true := idxOk_nat (by omega)
    have i10 : idxOk (i : Int) (gl n 10).length = true := idxOk_nat (by omega)
    show impl_NodeOk_l16 (m + 1) (N : Int) i (n_impl_Node n) = _
    rw [impl_NodeOk_l16]
    simp only [show gl (n_impl_Node n) 9 = gl n 9 from rfl, show gl (n_impl_Node n) 10 = gl n 10 from rfl, show gi (n_impl_Node n) 5 = gi n 5 from rfl, lt_nat hi, i9, i10, Int.toNat_natCast, cond_true, wr_succ hi hl, show n_impl_Node (n_impl_Node n) = n_impl_Node n from rfl, show gl (n_impl_Node n) 3 = gl n 3 from rfl]
    rw [wr64' (n := ((gl n 3).length : Int) + 1) (by omega) (by omega)]
    simp only [cellB, within_eq]
    generalize impl_NodeOk_l16 m _ _ _ = R
    generalize gi (rd (gl n 9) i) 0 = a
    generalize gi (rd (gl n 10) i) 0 = b
    generalize ((gl n 3).length : Int) = L
    by_cases h2 : gi n 5 = 2
    · simp only [h2, decide_true, cond_true, Bool.not_true, cond_false]
      by_cases a1 : 1 ≤ a ∧ a ≤ L + 1 <;> by_cases a2 : 0 ≤ b ∧ b ≤ L <;> simp [a1, a2]
    · simp only [h2, decide_false, cond_false, Bool.not_false, cond_true]
      by_cases a1 : a = 0 <;> by_cases a2 : b = 0 <;> simp [a1, a2]
  · show impl_NodeOk_l16 (m + 1) _ _ (n_impl_Node n) = _
    rw [impl_NodeOk_l16]
    simp only [lt_self, cond_false]
theorem contains_eq {l : List V} (hl : l.length ≤ 9223372036854775807) : slices_Contains_bool l true = some (!(List.range l.length).all (fun i => !gb (rd l i) 0)) := by
  unfold slices_Contains_bool slices_Index_bool
  rw [fuel_eq]
  have key : (fun o : Option (Nat × Int) => ∃ p, o = some p ∧ ((p.1 = 1 ∧ (List.range l.length).all (fun i => !gb (rd l i) 0) = true) ∨ (p.1 = 0 ∧ 0 ≤ p.2 ∧ (List.range l.length).all (fun i => !gb (rd l i) 0) = false))) (slices_Index_bool_l2 (l.length + 1) l true (l.length : Int) 0) := by
    refine loop_run0 (F := fun m (_ : Unit) i => slices_Index_bool_l2 m l true (l.length : Int) i) (n := l.length) (fun i _ => (List.range i).all (fun i => !gb (rd l i) 0) = true) (fun o : Option (Nat × Int) => ∃ p, o = some p ∧ ((p.1 = 1 ∧ (List.range l.length).all (fun i => !gb (rd l i) 0) = true) ∨ (p.1 = 0 ∧ 0 ≤ p.2 ∧ (List.range l.length).all (fun i => !gb (rd l i) 0) = false))) ?_ ?_ (s := ()) (by simp)
    · intro m i s hi hI
      simp only [slices_Index_bool_l2, lt_nat hi, idxOk_nat hi, Int.toNat_natCast, cond_true, wr_succ hi hl]
      cases hv : gb (rd l i) 0 with
      | true => exact .inr ⟨(0, (i : Int)), rfl, .inr ⟨rfl, by simp, range_all_false (p := fun i => !gb (rd l i) 0) hi (by simp [hv])⟩⟩
      | false => exact .inl ⟨(), rfl, by rw [range_all_succ, hI, hv]; rfl⟩
    · intro m s hI
      exact ⟨(1, 0), by simp only [slices_Index_bool_l2, lt_self, cond_false], .inl ⟨rfl, hI⟩⟩
  obtain ⟨p, e, hp⟩ := key
  rw [e, Option.bind_some]
  rcases hp with ⟨p1, p2⟩ | ⟨p1, p2, p3⟩
  · rw [p1, p2]; rfl
  · rw [p1, p3]
    show some (decide (0 ≤ p.2)) = _
    rw [decide_eq_true p2]; rfl
end Go.Eng.R
open Go Go.Eng
namespace Go.Eng.R
open Classical
theorem range_and (p q : Nat → Bool) (n : Nat) : (List.range n).all (fun i => p i && q i) = ((List.range n).all p && (List.range n).all q) := by
  induction n with
  | zero => rfl
  | succ n ih => rw [range_all_succ, range_all_succ, range_all_succ, ih]; cases (List.range n).all p <;> cases (List.range n).all q <;> cases p n <;> cases q n <;> rfl
theorem servers_eq (k : Int) : spec_l4servers k = decide (1 ≤ k ∧ k ≤ 5) := by
  unfold spec_l4servers; by_cases h : 1 ≤ k <;> simp [h]
theorem term_eq (k : Int) : spec_l3term k = decide (0 ≤ k ∧ k ≤ 100000) := by
  unfold spec_l3term; by_cases h : 0 ≤ k <;> simp [h]
theorem who_eq (n k : Int) : spec_l4who n k = decide (-1 ≤ n ∧ n < k) := by
  unfold spec_l4who; by_cases h : -1 ≤ n <;> simp [h]
theorem not_of {p : Prop} [Decidable p] (h : (!decide p) = true) : ¬ p := by simpa using h
theorem of_not {p : Prop} [Decidable p] (h : (!decide p) = false) : p := by simpa using h
theorem yes_of {p : Prop} [Decidable p] (h : decide p = true) : p := by simpa using h
theorem no_of {p : Prop} [Decidable p] (h : decide p = false) : ¬ p := by simpa using h
theorem spec_NodeOk_eq {n : V} (hn : W_Node n) (k : Int) : spec_NodeOk (n_impl_Node n) k = some (nodeB n k) := by
  unfold spec_NodeOk
  simp only [servers_eq, term_eq, who_eq, fuel_eq, show n_impl_Node (n_impl_Node n) = n_impl_Node n from rfl]
  show (bif _ then _ else _) = _
  refine chk (fun h => nodeB_false fun p => not_of h ⟨p.k1, p.k5⟩) fun h => ?_
  obtain ⟨k1, k5⟩ := of_not h
  refine chk (fun h => nodeB_false fun p => absurd (yes_of h) (Int.not_lt.2 p.id0)) fun h => ?_
  have id0 := no_of h
  refine chk (fun h => nodeB_false fun p => absurd (yes_of h) (Int.not_le.2 p.idk)) fun h => ?_
  have idk := no_of h
  refine chk (fun h => nodeB_false fun p => not_of h ⟨p.term0, p.term1⟩) fun h => ?_
  have term := of_not h
  refine chk (fun h => nodeB_false fun p => not_of h ⟨p.vote0, p.votek⟩) fun h => ?_
  have vote := of_not h
  refine chk (fun h => nodeB_false fun p => absurd (yes_of h) (Int.not_lt.2 p.len)) fun h => ?_
  have len := no_of h
  refine chk (fun h => nodeB_false fun p => absurd (yes_of h) (Int.not_lt.2 p.com0)) fun h => ?_
  have com0 := no_of h
  refine chk (fun h => nodeB_false fun p => absurd (yes_of h) (Int.not_lt.2 p.com1)) fun h => ?_
  have com1 := no_of h
  refine chk (fun h => nodeB_false fun p => absurd (yes_of h) (Int.not_lt.2 p.role0)) fun h => ?_
  have role0 := no_of h
  refine chk (fun h => nodeB_false fun p => absurd (yes_of h) (Int.not_lt.2 p.role2)) fun h => ?_
  have role2 := no_of h
  refine chk (fun h => nodeB_false fun p => not_of h ⟨p.lead0, p.leadk⟩) fun h => ?_
  have lead := of_not h
  refine chk (fun h => nodeB_false fun p => absurd (yes_of h) (Int.not_lt.2 p.wait0)) fun h => ?_
  have wait0 := no_of h
  refine chk (fun h => nodeB_false fun p => absurd (yes_of h) (Int.not_lt.2 p.wait1)) fun h => ?_
  have wait1 := no_of h
  refine chk (fun h => nodeB_false fun p => not_of h p.lvotes) fun h => ?_
  have lvotes := of_not h
  refine chk (fun h => nodeB_false fun p => not_of h p.lnext) fun h => ?_
  have lnext := of_not h
  refine chk (fun h => nodeB_false fun p => not_of h p.lmatch) fun h => ?_
  have lmatch := of_not h
  clear h
  have l8 : ((gl n 8).length : Int) = k := lvotes
  have l9 : ((gl n 9).length : Int) = k := lnext
  have l10 : ((gl n 10).length : Int) = k := lmatch
  have hlen : (gl n 3).length ≤ 400 := by
    have : ¬ (400 : Int) < ((gl n 3).length : Int) := len
    omega
  rw [show gl (n_impl_Node n) 3 = gl n 3 from rfl, spec_log_run hn k]
  cases hit : (List.range (gl n 3).length).all (logB n) with
  | false => exact (congrArg some (nodeB_false fun p => by rw [p.items] at hit; cases hit)).symm
  | true =>
    have hcell := spec_cell_run hn (N := (gl n 8).length) rfl (by omega) (by omega) hlen
    rw [l8] at hcell
    simp only [cond_true, Option.bind_some, show Nat.beq 1 0 = false from rfl, cond_false]
    rw [show (k - 0).toNat + 1 = (gl n 8).length + 1 from by omega, show gi (n_impl_Node n) 5 = gi n 5 from rfl, show gi (n_impl_Node n) 1 = gi n 1 from rfl, show gi (n_impl_Node n) 2 = gi n 2 from rfl, show gi (n_impl_Node n) 0 = gi n 0 from rfl,
      show n_impl_Node (n_impl_Node n) = n_impl_Node n from rfl, hcell, range_and]
    have fin : ∀ (c v : Bool), (List.range (gl n 8).length).all (cellB n) = c → (List.range (gl n 8).length).all (voteB n) = v → (gi n 5 ≠ 0 → 1 ≤ gi n 1 ∧ gi n 2 = gi n 0) →
        (Option.bind (bif (c && v) then some (1, false, n_impl_Node n) else some (0, false, n_impl_Node n)) fun r29 => bif (Nat.beq r29.1 0) then some r29.2.1 else bif (!(decide ((gi r29.2.2 5) = 2))) then some true else some (decide ((gi r29.2.2 6) = (gi r29.2.2 0)))) = some (nodeB n k) := by
      intro c v hc hv hst
      cases c with
      | false => exact (congrArg some (nodeB_false fun p => by have := p.cells; rw [show (gl n 9).length = (gl n 8).length from by omega, hc] at this; cases this)).symm
      | true =>
        cases v with
        | false => exact (congrArg some (nodeB_false fun p => by have := p.votes; rw [hv] at this; cases this)).symm
        | true =>
          show (bif (!(decide (gi n 5 = 2))) then some true else some (decide (gi n 6 = gi n 0))) = _
          have mk : (gi n 5 = 2 → gi n 6 = gi n 0) → nodeB n k = true := fun hl => decide_eq_true
            { k1 := k1, k5 := k5, id0 := Int.not_lt.1 id0, idk := Int.not_le.1 idk, term0 := term.1, term1 := term.2, vote0 := vote.1, votek := vote.2, lead0 := lead.1, leadk := lead.2,
              len := by omega, com0 := Int.not_lt.1 com0, com1 := Int.not_lt.1 com1, role0 := Int.not_lt.1 role0, role2 := Int.not_lt.1 role2, wait0 := Int.not_lt.1 wait0, wait1 := Int.not_lt.1 wait1,
              lvotes := l8, lnext := l9, lmatch := l10, items := hit, cells := by rw [show (gl n 9).length = (gl n 8).length from by omega]; exact hc, votes := hv, stands := hst, leads := hl }
          by_cases h2 : gi n 5 = 2
          · by_cases h6 : gi n 6 = gi n 0
            · rw [mk fun _ => h6]; simp [h2, h6]
            · rw [nodeB_false fun p => h6 (p.leads h2)]; simp [h2, h6]
          · rw [mk fun h => absurd h h2]; simp [h2]
    by_cases h5 : gi n 5 = 0
    · simp only [h5, decide_true, Bool.not_true, cond_false]
      have := fin _ _ rfl rfl (fun h => absurd h5 h)
      exact this
    · simp only [h5, decide_false, Bool.not_false, cond_true]
      refine chk (fun h => nodeB_false fun p => absurd (yes_of h) (Int.not_lt.2 (p.stands h5).1)) fun h => ?_
      have s1 := no_of h
      refine chk (fun h => nodeB_false fun p => not_of h (p.stands h5).2) fun h => ?_
      have s2 := of_not h
      exact fin _ _ rfl rfl (fun _ => ⟨Int.not_lt.1 s1, s2⟩)
theorem server_eq (i k : Int) (hk : I64 k) : impl_isServer i k = (decide (1 ≤ k ∧ k ≤ 5) && decide (0 ≤ i ∧ i < k)) := by
  unfold impl_isServer
  simp only [within_eq]
  by_cases h : 1 ≤ k ∧ k ≤ 5
  · rw [wr64' (by omega) (by omega), decide_eq_true h]
    simp only [cond_true, Bool.true_and]
    congr 1
    apply propext
    omega
  · rw [decide_eq_false h]; rfl
theorem wrap_pred (k : Int) (h1 : 1 ≤ k) (h5 : k ≤ 5) : IntKind.i64.wrap (k - 1) = k - 1 := wr64' (by omega) (by omega)
theorem impl_NodeOk_eq {n : V} (hn : W_Node n) (k : Int) (hk : I64 k) : impl_NodeOk (n_impl_Node n) k = some (nodeB n k) := by
  unfold impl_NodeOk
  simp only [server_eq _ k hk, within_eq, fuel_eq, show n_impl_Node (n_impl_Node n) = n_impl_Node n from rfl]
  refine chk (fun h => nodeB_false fun p => ?_) fun h => ?_
  · have a : decide (1 ≤ k ∧ k ≤ 5) = true := decide_eq_true ⟨p.k1, p.k5⟩
    have b : decide (0 ≤ gi (n_impl_Node n) 0 ∧ gi (n_impl_Node n) 0 < k) = true := decide_eq_true ⟨p.id0, p.idk⟩
    rw [a, b] at h; cases h
  simp only [Bool.not_eq_false', Bool.and_eq_true, decide_eq_true_eq] at h
  obtain ⟨⟨k1, k5⟩, id0, idk⟩ := h
  rw [wrap_pred k k1 k5]
  refine chk (fun h => nodeB_false fun p => not_of h ⟨p.term0, p.term1⟩) fun h => ?_
  have term := of_not h
  refine chk (fun h => nodeB_false fun p => not_of h ⟨p.vote0, by have := p.votek; show gi n 2 ≤ k - 1; omega⟩) fun h => ?_
  have vote := of_not h
  refine chk (fun h => nodeB_false fun p => not_of h ⟨p.lead0, by have := p.leadk; show gi n 6 ≤ k - 1; omega⟩) fun h => ?_
  have lead := of_not h
  refine chk (fun h => nodeB_false fun p => absurd (yes_of h) (Int.not_lt.2 p.len)) fun h => ?_
  have len := no_of h
  clear h
  have hlen : (gl n 3).length ≤ 400 := by
    have : ¬ (400 : Int) < ((gl n 3).length : Int) := len
    omega
  have vote : -1 ≤ gi n 2 ∧ gi n 2 ≤ k - 1 := vote
  have lead : -1 ≤ gi n 6 ∧ gi n 6 ≤ k - 1 := lead
  rw [show gl (n_impl_Node n) 3 = gl n 3 from rfl, impl_log_run hn k]
  cases hit : (List.range (gl n 3).length).all (logB n) with
  | false => exact (congrArg some (nodeB_false fun p => by rw [p.items] at hit; cases hit)).symm
  | true =>
    simp only [cond_true, Option.bind_some, show Nat.beq 1 0 = false from rfl, cond_false]
    rw [show gl (n_impl_Node n) 3 = gl n 3 from rfl, show gl (n_impl_Node n) 8 = gl n 8 from rfl, show gl (n_impl_Node n) 9 = gl n 9 from rfl, show gl (n_impl_Node n) 10 = gl n 10 from rfl, show gi (n_impl_Node n) 4 = gi n 4 from rfl, show gi (n_impl_Node n) 5 = gi n 5 from rfl, show gi (n_impl_Node n) 7 = gi n 7 from rfl,
      show gi (n_impl_Node n) 1 = gi n 1 from rfl, show gi (n_impl_Node n) 2 = gi n 2 from rfl, show gi (n_impl_Node n) 0 = gi n 0 from rfl, show gi (n_impl_Node n) 6 = gi n 6 from rfl, show n_impl_Node (n_impl_Node n) = n_impl_Node n from rfl]
    refine chk (fun h => nodeB_false fun p => not_of h ⟨p.com0, p.com1⟩) fun h => ?_
    have com := of_not h
    refine chk (fun h => nodeB_false fun p => not_of h ⟨p.role0, p.role2⟩) fun h => ?_
    have role := of_not h
    refine chk (fun h => nodeB_false fun p => not_of h ⟨p.wait0, p.wait1⟩) fun h => ?_
    have wait := of_not h
    refine chk (fun h => nodeB_false fun p => not_of h p.lvotes) fun h => ?_
    have l8 := of_not h
    refine chk (fun h => nodeB_false fun p => not_of h p.lnext) fun h => ?_
    have l9 := of_not h
    refine chk (fun h => nodeB_false fun p => not_of h p.lmatch) fun h => ?_
    have l10 := of_not h
    clear h
    have hcell := impl_cell_run hn (N := (gl n 8).length) rfl (by omega) (by omega) hlen
    rw [l8] at hcell
    rw [show (k - 0).toNat + 1 = (gl n 8).length + 1 from by omega, hcell, contains_eq hn.2.2.2.2.2.2.2.2.1.1]
    have fin : (gi n 5 = 0 → (List.range (gl n 8).length).all (fun i => !gb (rd (gl n 8) i) 0) = true) → (gi n 5 ≠ 0 → 1 ≤ gi n 1 ∧ gi n 2 = gi n 0) → (gi n 5 = 2 → gi n 6 = gi n 0) →
        (Option.bind (bif (List.range (gl n 8).length).all (cellB n) then some (1, false) else some (0, false)) fun r51 : Nat × Bool => bif (Nat.beq r51.1 0) then some r51.2 else some true) = some (nodeB n k) := by
      intro hv hst hld
      cases hc : (List.range (gl n 8).length).all (cellB n) with
      | false => exact (congrArg some (nodeB_false fun p => by have := p.cells; rw [show (gl n 9).length = (gl n 8).length from by omega, hc] at this; cases this)).symm
      | true =>
        have hcells : (List.range (gl n 9).length).all (cellB n) = true := by rw [show (gl n 9).length = (gl n 8).length from by omega]; exact hc
        have hvotes : (List.range (gl n 8).length).all (voteB n) = true := by
          by_cases h5 : gi n 5 = 0
          · rw [← hv h5]; congr 1; funext i; simp [voteB, h5]
          · rw [List.all_eq_true]; intro i _; simp [voteB, h5]
        refine (congrArg some (decide_eq_true ?_)).symm
        exact { k1 := k1, k5 := k5, id0 := id0, idk := idk, term0 := term.1, term1 := term.2, vote0 := vote.1, votek := (by omega), lead0 := lead.1, leadk := (by omega),
                    len := (by omega), com0 := com.1, com1 := com.2, role0 := role.1, role2 := role.2, wait0 := wait.1, wait1 := wait.2,
                    lvotes := l8, lnext := l9, lmatch := l10, items := hit, cells := hcells, votes := hvotes, stands := hst, leads := hld }
    by_cases h5 : gi n 5 = 0
    · simp only [h5, decide_true, Bool.not_true, cond_false, cond_true, Option.bind_some]
      refine chk (fun h => nodeB_false fun p => ?_) fun h => ?_
      · have := p.votes
        have e : (List.range (gl n 8).length).all (voteB n) = (List.range (gl n 8).length).all (fun i => !gb (rd (gl n 8) i) 0) := by congr 1; funext i; simp [voteB, h5]
        rw [e] at this; rw [this] at h; cases h
      · simp only [show decide ((0 : Int) = 2) = false from rfl, cond_false]
        exact fin (fun _ => by simpa using h) (fun h => absurd h5 h) (fun h => by omega)
    · simp only [h5, decide_false, Bool.not_false, cond_true, cond_false]
      refine chk (fun h => nodeB_false fun p => absurd (yes_of h) (Int.not_lt.2 (p.stands h5).1)) fun h => ?_
      have s1 := no_of h
      refine chk (fun h => nodeB_false fun p => not_of h (p.stands h5).2) fun h => ?_
      have s2 := of_not h
      by_cases h2 : gi n 5 = 2
      · simp only [h2, decide_true, cond_true]
        refine chk (fun h => nodeB_false fun p => not_of h (p.leads h2)) fun h => ?_
        exact fin (fun h => absurd h h5) (fun _ => ⟨Int.not_lt.1 s1, s2⟩) (fun _ => of_not h)
      · simp only [h2, decide_false, cond_false]
        exact fin (fun h => absurd h h5) (fun _ => ⟨Int.not_lt.1 s1, s2⟩) (fun h => absurd h h2)
end Go.Eng.R
open Go Go.Eng
namespace Go.Eng.R
theorem app_loop {F : Nat → List V → Int → Option (List V)} {a : List V} {f : V → V}
    (h1 : ∀ m (i : Nat) r, i < a.length → r.length = i → F (m + 1) r (i : Int) = F m (r ++ [f (rd a i)]) ((i + 1 : Nat) : Int)) (h0 : ∀ m r, F (m + 1) r (a.length : Int) = some r) : F (a.length + 1) [] 0 = some (a.map f) := by
  refine loop_run0 (F := F) (n := a.length) (fun i r => r = (a.take i).map f) (fun o => o = some (a.map f)) ?_ ?_ (by simp)
  · intro m i s hi hI
    refine .inl ⟨_, h1 m i s hi (by rw [hI]; simp; omega), ?_⟩
    have : a[i]? = some (rd a i) := by simp [rd, List.getD, hi]
    rw [hI, List.take_add_one, this]; simp
  · intro m s hI
    rw [h0, hI, List.take_length]
theorem roomyB {n b : Nat} (h : n * b ≤ 140737488355328) (h1 : n ≤ 9223372036854775807) : (roomy n b && true) = true := by rw [roomy_of h h1]; rfl
theorem z_item_le {l : List V} {B : Nat} (h : zS z_Item l ≤ B) : l.length ≤ B ∧ ∀ i, i < l.length → (gl (rd l i) 4).length ≤ B ∧ (gl (rd l i) 5).length ≤ B := by
  refine ⟨by simp only [zS] at h; omega, fun i hi => ?_⟩
  have h1 := sum_take_succ z_Item hi
  have h2 := sumL_take_le z_Item l (i + 1)
  simp only [zS] at h
  have h3 : z_Item (rd l i) = zS z0 (gl (rd l i) 4) + zS z0 (gl (rd l i) 5) := rfl
  rw [zS_z0, zS_z0] at h3
  omega
theorem impl_clone_eq {l : List V} (h : l.length ≤ 4000000) : slices_Clone_byte l = some l := by
  unfold slices_Clone_byte
  rw [roomyB (by omega) (by omega)]; rfl
theorem impl_ownItems_eq {l : List V} (hl : LW W_Item l) (hz : zS z_Item l ≤ 4000000) : impl_ownItems l = some (l.map n_impl_Item) := by
  obtain ⟨z1, z2⟩ := z_item_le hz
  unfold impl_ownItems
  rw [fuel_eq, app_loop (F := fun m r i => impl_ownItems_l3 m l (l.length : Int) i r) (f := n_impl_Item) ?_ ?_]
  · rfl
  · intro m i r hi hr
    have h1 := z2 i hi
    simp only [impl_ownItems_l3, lt_nat hi, idxOk_nat hi, Int.toNat_natCast, cond_true, impl_Cmd_own, impl_Op_own, gl_c0, gl_cs, gi_c0, gi_cs, impl_clone_eq h1.1, impl_clone_eq h1.2, Option.bind_some]
    rw [roomyB (n := r.length + 1) (by omega) (by omega)]
    simp only [cond_true, wr_succ hi hl.1]
    rfl
  · intro m r; simp only [impl_ownItems_l3, lt_self, cond_false]
def zeroN : V := V.agg [(V.int .i64 0), (V.int .i64 0), (V.int .i64 0), (V.inl t_impl_Item []), (V.int .i64 0), (V.int .i64 0), (V.int .i64 0), (V.int .i64 0), (V.inl t_bool []), (V.inl t_int' []), (V.inl t_int' [])]
theorem I64_0 : I64 0 := ⟨by decide, by decide⟩
theorem I64_m1 : I64 (-1) := ⟨by decide, by decide⟩
theorem LW_rep {w : V → Prop} {x : V} {k : Nat} (h : w x) (hk : k ≤ 9223372036854775807) : LW w (List.replicate k x) := ⟨by simpa using hk, fun y hy => by rw [List.eq_of_mem_replicate hy]; exact h⟩
end Go.Eng.R
open Go Go.Eng
namespace Go.Eng.R
def termN (n : V) (p : Nat) : Int := bif decide (1 ≤ p ∧ p ≤ (gl n 3).length) then gi (rd (gl n 3) (p - 1)) 0 else 0
theorem impl_termAt_eq {n : V} {p : Nat} (hl : (gl n 3).length ≤ 9223372036854775807) (hp : p ≤ 9223372036854775807) : impl_Node_termAt (n_impl_Node n) (p : Int) = some (termN n p) := by
  unfold impl_Node_termAt termN
  rw [show gl (n_impl_Node n) 3 = gl n 3 from rfl, within_eq]
  by_cases h : 1 ≤ p ∧ p ≤ (gl n 3).length
  · rw [decide_eq_true (p := (1 : Int) ≤ (p : Int) ∧ (p : Int) ≤ ((gl n 3).length : Int)) (by omega), decide_eq_true h, wr64' (by omega) (by omega), show ((p : Int) - 1) = ((p - 1 : Nat) : Int) from by omega, idxOk_nat (by omega), Int.toNat_natCast]
    rfl
  · rw [decide_eq_false (p := (1 : Int) ≤ (p : Int) ∧ (p : Int) ≤ ((gl n 3).length : Int)) (by omega), decide_eq_false h]
    rfl
def itemsN (n : V) (p : Nat) : List V := (((gl n 3).drop p).take 4).map n_impl_Item
def prevN (n : V) (to : Nat) : Nat := (gi (rd (gl n 9) to) 0 - 1).toNat
def addN (n : V) (to : Nat) : V :=
  V.agg [(V.int .i64 2), (V.int .i64 (gi n 0)), (V.int .i64 (to : Int)), (V.int .i64 (gi n 1)), (V.int .i64 ((prevN n to : Nat) : Int)), (V.int .i64 (termN n (prevN n to))), (V.inl t_impl_Item (itemsN n (prevN n to))), (V.int .i64 (gi n 4)), (V.bool false)]
structure NextOk (n : V) (to : Nat) : Prop where
  lt : to < (gl n 9).length
  lo : 1 ≤ gi (rd (gl n 9) to) 0
  hi : gi (rd (gl n 9) to) 0 ≤ ((gl n 3).length : Int) + 1
  len : (gl n 3).length ≤ 401
theorem take_rd {l : List V} {i : Nat} (h : i < l.length) : l.take (i + 1) = l.take i ++ [rd l i] := by
  rw [List.take_add_one]
  have : l[i]? = some (rd l i) := by simp [rd, List.getD, h]
  rw [this]; rfl
theorem rd_drop (l : List V) (p i : Nat) : rd (l.drop p) i = rd l (p + i) := by simp [rd, List.getD]
theorem sumL_drop_le (c : V → Nat) (l : List V) (i : Nat) : sumL c (l.drop i) ≤ sumL c l := by
  have : sumL c l = sumL c (l.take i) + sumL c (l.drop i) := by rw [← sumL_append, List.take_append_drop]
  omega
theorem zS_sub (z : V → Nat) (l : List V) (p k : Nat) : zS z ((l.drop p).take k) ≤ zS z l := by
  have h1 := sumL_take_le z (l.drop p) k
  have h2 := sumL_drop_le z l p
  simp only [zS, List.length_take, List.length_drop]; omega
theorem LW_sub {w : V → Prop} {l : List V} (h : LW w l) (p k : Nat) : LW w ((l.drop p).take k) :=
  ⟨by have := h.1; simp only [List.length_take, List.length_drop]; omega, fun x hx => h.2 x (List.mem_of_mem_drop (List.mem_of_mem_take hx))⟩
theorem impl_entries_eq {n : V} (hn : W_Node n) (hz : zS z_Item (gl n 3) ≤ 4000000) {to : Nat} (h : NextOk n to) : impl_Node_entries (n_impl_Node n) (to : Int) = some (addN n to) := by
  obtain ⟨h1, h2, h3, h4⟩ := h
  have hp : gi (rd (gl n 9) to) 0 - 1 = ((prevN n to : Nat) : Int) := by unfold prevN; omega
  have hpl : prevN n to ≤ (gl n 3).length := by unfold prevN; omega
  unfold impl_Node_entries
  simp only [show gl (n_impl_Node n) 9 = gl n 9 from rfl, show gl (n_impl_Node n) 3 = gl n 3 from rfl, idxOk_nat h1, Int.toNat_natCast, cond_true, show n_impl_Node (n_impl_Node n) = n_impl_Node n from rfl]
  rw [wr64' (n := gi (rd (gl n 9) to) 0 - 1) (by omega) (by omega), hp, wr64' (n := ((prevN n to : Nat) : Int) + 4) (by omega) (by omega), impl_termAt_eq (by omega) (by omega)]
  have hm : mnI ((gl n 3).length : Int) (((prevN n to : Nat) : Int) + 4) = ((min (gl n 3).length (prevN n to + 4) : Nat) : Int) := by
    unfold mnI; split <;> omega
  rw [hm, decide_eq_true (p := (0 : Int) ≤ ((min (gl n 3).length (prevN n to + 4) : Nat) : Int)) (by omega), decide_eq_true (p := ((min (gl n 3).length (prevN n to + 4) : Nat) : Int) ≤ ((gl n 3).length : Int)) (by omega)]
  simp only [Bool.and_self, cond_true, Int.toNat_natCast, Option.bind_some]
  rw [decide_eq_true (p := (0 : Int) ≤ ((prevN n to : Nat) : Int)) (by omega), decide_eq_true (p := ((prevN n to : Nat) : Int) ≤ ((min (gl n 3).length (prevN n to + 4) : Nat) : Int)) (by omega)]
  simp only [Bool.and_self, cond_true]
  have htk : ((gl n 3).drop (prevN n to)).take (min (gl n 3).length (prevN n to + 4) - prevN n to) = ((gl n 3).drop (prevN n to)).take 4 := by
    rw [List.take_eq_take_iff]; simp; omega
  have hzz := zS_sub z_Item (gl n 3) (prevN n to) 4
  rw [htk, impl_ownItems_eq (LW_sub hn.2.2.2.1 _ _) (by omega)]
  rfl
end Go.Eng.R
open Go Go.Eng
namespace Go.Eng.R
def othersN (id : Int) (N : Nat) : List V := ((List.range N).filter fun i : Nat => !decide ((i : Int) = id)).map fun i : Nat => V.int .i64 (i : Int)
theorem othersN_succ (id : Int) (N : Nat) : othersN id (N + 1) = othersN id N ++ (bif decide ((N : Int) = id) then [] else [V.int .i64 (N : Int)]) := by
  unfold othersN
  rw [List.range_succ, List.filter_append, List.map_append]
  congr 1
  by_cases h : (N : Int) = id <;> simp [h]
theorem othersN_len (id : Int) (N : Nat) : (othersN id N).length ≤ N := by
  unfold othersN
  rw [List.length_map]
  exact Nat.le_trans (List.length_filter_le _ _) (by simp)
theorem impl_others_eq {n : V} (h8 : (gl n 8).length ≤ 1000) : impl_Node_others (n_impl_Node n) = some (othersN (gi n 0) (gl n 8).length) := by
  unfold impl_Node_others
  rw [show gl (n_impl_Node n) 8 = gl n 8 from rfl, fuel_eq]
  have key := loop_run0 (F := fun m r i => impl_Node_others_l3 m ((gl n 8).length : Int) i (n_impl_Node n) r) (n := (gl n 8).length) (fun i r => r = othersN (gi n 0) i) (fun o => o = some (othersN (gi n 0) (gl n 8).length)) ?_ ?_ (s := []) rfl
  · have key : impl_Node_others_l3 _ _ _ _ _ = _ := key
    show Option.bind (impl_Node_others_l3 _ _ _ (n_impl_Node n) _) _ = _
    rw [key]; rfl
  · intro m i r hi hI
    have hrl : r.length ≤ i := by rw [hI]; exact othersN_len _ _
    refine .inl ⟨othersN (gi n 0) (i + 1), ?_, rfl⟩
    show impl_Node_others_l3 (m + 1) _ _ (n_impl_Node n) _ = _
    rw [impl_Node_others_l3, othersN_succ, ← hI]
    simp only [lt_nat hi, cond_true, show gi (n_impl_Node n) 0 = gi n 0 from rfl, wr_succ hi (show (gl n 8).length ≤ 9223372036854775807 by omega)]
    rw [roomyB (n := r.length + 1) (by omega) (by omega)]
    by_cases h : (i : Int) = gi n 0
    · simp only [h, decide_true, Bool.not_true, cond_false, cond_true, List.append_nil]; rfl
    · simp only [h, decide_false, Bool.not_false, cond_false, cond_true]; rfl
  · intro m r hI
    show impl_Node_others_l3 (m + 1) _ _ (n_impl_Node n) _ = _
    rw [impl_Node_others_l3, lt_self, hI]; rfl
def ownM (m : V) : V := V.agg [(V.int .i64 (gi m 0)), (V.int .i64 (gi m 1)), (V.int .i64 (gi m 2)), (V.int .i64 (gi m 3)), (V.int .i64 (gi m 4)), (V.int .i64 (gi m 5)), (V.inl t_impl_Item ((gl m 6).map n_impl_Item)), (V.int .i64 (gi m 7)), (V.bool (gb m 8))]
theorem ownM_addN (n : V) (to : Nat) : ownM (addN n to) = addN n to := by
  have : (itemsN n (prevN n to)).map n_impl_Item = itemsN n (prevN n to) := by
    unfold itemsN; rw [List.map_map]; rfl
  show V.agg [_, _, _, _, _, _, V.inl _ ((itemsN n (prevN n to)).map n_impl_Item), _, _] = _
  rw [this]; rfl
theorem itemsN_W {n : V} (hn : W_Node n) (p : Nat) : LW W_Item (itemsN n p) := LW.map (h := n_impl_Item) (fun x hx => hx) (LW_sub hn.2.2.2.1 _ _)
theorem itemsN_z {n : V} (p : Nat) : zS z_Item (itemsN n p) ≤ zS z_Item (gl n 3) := by
  unfold itemsN
  rw [zS_map (f := z_Item) (g := z_Item) (h := n_impl_Item) (fun x => rfl)]
  exact zS_sub _ _ _ _
theorem termN_I64 {n : V} (hn : W_Node n) (p : Nat) : I64 (termN n p) := by
  unfold termN
  by_cases h : 1 ≤ p ∧ p ≤ (gl n 3).length
  · rw [decide_eq_true h]
    exact (hn.2.2.2.1.rd (i := p - 1) (by omega)).1
  · rw [decide_eq_false h]; exact I64_0
theorem addN_W {n : V} (hn : W_Node n) {to : Nat} (h : NextOk n to) (ht : to ≤ 1000000) : W_Msg (addN n to) := by
  have := h.hi; have := h.len
  refine ⟨(show I64 2 from ⟨by decide, by decide⟩), hn.1, ⟨by show (-9223372036854775808 : Int) ≤ (to : Int); omega, by show ((to : Int)) ≤ 9223372036854775807; omega⟩, hn.2.1, ?_, termN_I64 hn _, itemsN_W hn _, hn.2.2.2.2.1, trivial⟩
  constructor
  · show (-9223372036854775808 : Int) ≤ ((prevN n to : Nat) : Int); omega
  · show (((prevN n to : Nat)) : Int) ≤ 9223372036854775807
    unfold prevN; omega
theorem addN_ct {n : V} {to : Nat} (hz : zS z_Item (gl n 3) ≤ 4000000) : ct_Msg (addN n to) ≤ 100000000 := by
  have h1 := itemsN_z (n := n) (prevN n to)
  have h2 : sumL c_Item (itemsN n (prevN n to)) ≤ 5 * zS z_Item (itemsN n (prevN n to)) := sumL_mul 5 fun y _ => c_Item_cz y
  show sumL c_Item (itemsN n (prevN n to)) ≤ _
  omega
theorem nextOk_of {n : V} {k : Int} (hp : NodeP n k) (h2 : gi n 5 = 2) {to : Nat} (ht : (to : Int) < k) : NextOk n to := by
  have hlen := hp.lnext
  have hto : to < (gl n 9).length := by omega
  have := List.all_eq_true.1 hp.cells to (List.mem_range.2 hto)
  simp only [cellB, h2, decide_true, cond_true, Bool.and_eq_true, decide_eq_true_eq] at this
  exact ⟨hto, this.1.1, this.1.2, by have := hp.len; omega⟩
end Go.Eng.R
open Go Go.Eng
namespace Go.Eng.R
end Go.Eng.R
open Go Go.Eng
namespace Go.Eng.R
structure ND where
  id : Int
  term : Int
  vote : Int
  log : List V
  commit : Int
  role : Int
  lead : Int
  wait : Int
  votes : List V
  next : List V
  mtch : List V
def ND.v (s : ND) : V := V.agg [(V.int .i64 s.id), (V.int .i64 s.term), (V.int .i64 s.vote), (V.inl t_impl_Item s.log), (V.int .i64 s.commit), (V.int .i64 s.role), (V.int .i64 s.lead), (V.int .i64 s.wait), (V.inl t_bool s.votes), (V.inl t_int' s.next), (V.inl t_int' s.mtch)]
def ND.sv (s : ND) (out : List V) : V := V.agg [(V.int .i64 s.id), (V.int .i64 s.term), (V.int .i64 s.vote), (V.inl t_impl_Item s.log), (V.int .i64 s.commit), (V.int .i64 s.role), (V.int .i64 s.lead), (V.int .i64 s.wait), (V.inl t_bool s.votes), (V.inl t_int' s.next), (V.inl t_int' s.mtch), (V.inl t_impl_Msg out)]
def ND.of (n : V) : ND := ⟨gi n 0, gi n 1, gi n 2, gl n 3, gi n 4, gi n 5, gi n 6, gi n 7, gl n 8, gl n 9, gl n 10⟩
def ND.b (s : ND) (a b c d e : Nat) : V := V.agg [(V.int .i64 s.id), (V.int .i64 s.term), (V.int .i64 s.vote), (V.sl a t_impl_Item 0 none), (V.int .i64 s.commit), (V.int .i64 s.role), (V.int .i64 s.lead), (V.int .i64 s.wait), (V.sl b t_bool 0 none), (V.sl c t_int' 0 none), (V.sl d t_int' 0 none), (V.sl e t_impl_Msg 0 none)]
def ND.c (s : ND) (a b c d : Nat) : V := V.agg [(V.int .i64 s.id), (V.int .i64 s.term), (V.int .i64 s.vote), (V.sl a t_impl_Item 0 none), (V.int .i64 s.commit), (V.int .i64 s.role), (V.int .i64 s.lead), (V.int .i64 s.wait), (V.sl b t_bool 0 none), (V.sl c t_int' 0 none), (V.sl d t_int' 0 none)]
def cntGe (p : Int) : List V → Nat
  | [] => 0
  | x :: l => (bif decide (p ≤ gi x 0) then 1 else 0) + cntGe p l
theorem cntGe_append (p : Int) (a b : List V) : cntGe p (a ++ b) = cntGe p a + cntGe p b := by induction a <;> simp_all [cntGe]; omega
theorem cntGe_succ (p : Int) {l : List V} {i : Nat} (h : i < l.length) : cntGe p (l.take (i + 1)) = cntGe p (l.take i) + (bif decide (p ≤ gi (rd l i) 0) then 1 else 0) := by
  rw [take_rd h, cntGe_append]; simp [cntGe]
theorem cntGe_le (p : Int) (l : List V) : cntGe p l ≤ l.length := by
  induction l with
  | nil => simp [cntGe]
  | cons x l ih => simp only [cntGe, List.length_cons]; cases decide (p ≤ gi x 0) <;> simp <;> omega
def termL (log : List V) (p : Nat) : Int := bif decide (1 ≤ p ∧ p ≤ log.length) then gi (rd log (p - 1)) 0 else 0
def scanC (s : ND) (c : Nat) : Nat → Nat
  | 0 => c
  | j + 1 => bif decide (termL s.log (c + (j + 1)) = s.term) && decide ((s.votes.length : Int) < 2 * ((cntGe (((c + (j + 1) : Nat)) : Int) s.mtch : Nat) : Int)) then c + (j + 1) else scanC s c j
def ND.mark (s : ND) : ND := { s with next := s.next.set s.id.toNat (V.int .i64 (((s.log.length : Nat) : Int) + 1)), mtch := s.mtch.set s.id.toNat (V.int .i64 ((s.log.length : Nat) : Int)) }
def ND.adv (s : ND) : ND := { s.mark with commit := ((scanC s.mark s.commit.toNat (s.log.length - s.commit.toNat) : Nat) : Int) }
def msgsN (n : V) (N : Nat) : List V := ((List.range N).filter fun i : Nat => !decide ((i : Int) = gi n 0)).map (addN n)
theorem msgsN_len (n : V) (N : Nat) : (msgsN n N).length ≤ N := by
  unfold msgsN
  rw [List.length_map]
  exact Nat.le_trans (List.length_filter_le _ _) (by simp)
theorem impl_adv_count {s : ND} {out : List V} (hl : s.mtch.length ≤ 1000) (place : Int) : impl_server_advance_l6 (s.mtch.length + 1) place 0 (s.mtch.length : Int) 0 (s.b 2 3 4 1 5) s.mtch s.log s.votes s.next out =
    some (place, ((cntGe place s.mtch : Nat) : Int), s.b 1 2 3 4 5, s.log, s.votes, s.next, s.mtch, out) := by
  refine loop_run0 (F := fun m c i => impl_server_advance_l6 m place c (s.mtch.length : Int) i (s.b 2 3 4 1 5) s.mtch s.log s.votes s.next out) (n := s.mtch.length) (fun i c => c = ((cntGe place (s.mtch.take i) : Nat) : Int)) (fun o => o = some (place, ((cntGe place s.mtch : Nat) : Int), s.b 1 2 3 4 5, s.log, s.votes, s.next, s.mtch, out)) ?_ ?_ (by simp [cntGe])
  · intro m i c hi hI
    have hle := cntGe_le place (s.mtch.take i)
    simp only [List.length_take] at hle
    refine .inl ⟨_, ?_, (cntGe_succ place hi ▸ rfl : ((cntGe place (s.mtch.take (i + 1)) : Nat) : Int) = ((cntGe place (s.mtch.take (i + 1)) : Nat) : Int))⟩
    show impl_server_advance_l6 (m + 1) place c _ (i : Int) _ _ _ _ _ _ = _
    rw [impl_server_advance_l6, cntGe_succ place hi]
    simp only [lt_nat hi, idxOk_nat hi, Int.toNat_natCast, Nat.zero_add, cond_true, wr_succ hi (show s.mtch.length ≤ 9223372036854775807 by omega)]
    by_cases h : place ≤ gi (rd s.mtch i) 0
    · simp only [h, decide_true, cond_true]
      rw [wr64' (by omega) (by omega), hI, show ((cntGe place (s.mtch.take i) : Nat) : Int) + 1 = ((cntGe place (s.mtch.take i) + 1 : Nat) : Int) from by omega]
      rfl
    · simp only [h, decide_false, cond_false, Nat.add_zero]
      rw [hI]; rfl
  · intro m c hI
    rw [List.take_length] at hI
    show impl_server_advance_l6 (m + 1) place c _ _ _ _ _ _ _ _ = _
    rw [impl_server_advance_l6, lt_self, hI]; rfl
theorem impl_adv_run {s : ND} {out : List V} {c : Nat} (hc : s.commit = (c : Int)) (hm : s.mtch.length ≤ 1000) (hv : s.votes.length = s.mtch.length) (hL : s.log.length ≤ 1000) :
    ∀ j m, j < m → c + j ≤ s.log.length → ∃ ix, impl_server_advance_l2 m ((c + j : Nat) : Int) (s.b 1 2 3 4 5) s.log s.votes s.next s.mtch out = some (ix, ({ s with commit := ((scanC s c j : Nat) : Int) } : ND).b 1 2 3 4 5, s.log, s.votes, s.next, s.mtch, out)
  | _, 0, h, _ => by omega
  | 0, m + 1, _, _ => by
    refine ⟨1, ?_⟩
    rw [impl_server_advance_l2]
    simp only [ND.b, gi_c0, gi_cs, scanC, ← hc, Nat.add_zero]
    simp only [Int.lt_irrefl, decide_false, cond_false]
    try rfl
  | j + 1, m + 1, h, hj => by
    obtain ⟨ix, ih⟩ := impl_adv_run (out := out) hc hm hv hL j m (by omega) (by omega)
    have ecnt := impl_adv_count (out := out) hm (((c + (j + 1) : Nat)) : Int)
    have et := impl_termAt_eq (n := s.v) (p := c + (j + 1)) (show s.log.length ≤ _ by omega) (by omega)
    rw [show n_impl_Node s.v = s.v from rfl, show termN s.v (c + (j + 1)) = termL s.log (c + (j + 1)) from rfl] at et
    have hcl := cntGe_le (((c + (j + 1) : Nat)) : Int) s.mtch
    rw [impl_server_advance_l2]
    simp only [ND.b, ND.v, gi_c0, gi_cs, fuel_eq] at ecnt ih et ⊢
    have hlt : s.commit < ((c + (j + 1) : Nat) : Int) := by omega
    simp only [hlt, decide_true, ecnt, cond_true, Option.bind_some, gi_c0, gi_cs, et, impl_Node_most, gl_c0, gl_cs]
    rw [wr64' (n := 2 * ((cntGe (((c + (j + 1) : Nat)) : Int) s.mtch : Nat) : Int)) (by omega) (by omega), wr64' (n := (((c + (j + 1) : Nat)) : Int) - 1) (by omega) (by omega), show (((c + (j + 1) : Nat)) : Int) - 1 = ((c + j : Nat) : Int) from by omega]
    simp only [scanC]
    by_cases h2 : termL s.log (c + (j + 1)) = s.term
    · by_cases h1 : ((s.votes.length : Nat) : Int) < 2 * ((cntGe (((c + (j + 1) : Nat)) : Int) s.mtch : Nat) : Int)
      · simp only [h1, h2, decide_true, cond_true, Bool.and_self]
        exact ⟨0, rfl⟩
      · simp only [h1, h2, decide_true, decide_false, cond_true, cond_false, Bool.and_false]
        exact ⟨ix, ih⟩
    · simp only [h2, decide_false, cond_false, Bool.false_and]
      exact ⟨ix, ih⟩
theorem impl_advance_eq {s : ND} {out : List V} (hi0 : 0 ≤ s.id) (hi : s.id < (s.mtch.length : Int)) (hn : s.next.length = s.mtch.length) (hv : s.votes.length = s.mtch.length) (hm : s.mtch.length ≤ 1000) (hL : s.log.length ≤ 1000) (hc0 : 0 ≤ s.commit) (hc1 : s.commit ≤ (s.log.length : Int)) :
    impl_server_advance (s.sv out) = some (s.adv.sv out) := by
  obtain ⟨c, hc⟩ : ∃ c : Nat, s.commit = (c : Int) := ⟨s.commit.toNat, by omega⟩
  obtain ⟨ix, e⟩ := impl_adv_run (s := s.mark) (out := out) (c := c) hc (by simpa [ND.mark] using hm) (by simpa [ND.mark] using hv) hL (s.log.length - c) (s.log.length - c + 1) (by omega) (by show c + (s.log.length - c) ≤ s.log.length; omega)
  have ei : s.id = ((s.id.toNat : Nat) : Int) := by omega
  unfold impl_server_advance
  rw [show gi (s.sv out) 0 = s.id from rfl, show gl (s.sv out) 10 = s.mtch from rfl, show gl (s.sv out) 9 = s.next from rfl, show gl (s.sv out) 3 = s.log from rfl]
  rw [show idxOk s.id s.mtch.length = true from by rw [ei]; exact idxOk_nat (by omega), show idxOk s.id s.next.length = true from by rw [ei]; exact idxOk_nat (by omega)]
  simp only [cond_true]
  rw [wr64' (n := ((s.log.length : Nat) : Int) + 1) (by omega) (by omega)]
  have e : impl_server_advance_l2 (s.log.length - c + 1) ((c + (s.log.length - c) : Nat) : Int) (s.b 1 2 3 4 5) s.log s.votes (s.next.set (0 + s.id.toNat) (V.int .i64 (((s.log.length : Nat) : Int) + 1))) (s.mtch.set (0 + s.id.toNat) (V.int .i64 ((s.log.length : Nat) : Int))) out = some (ix, ({ s.mark with commit := ((scanC s.mark c (s.log.length - c) : Nat) : Int) } : ND).b 1 2 3 4 5, s.log, s.votes, s.next.set (0 + s.id.toNat) (V.int .i64 (((s.log.length : Nat) : Int) + 1)), s.mtch.set (0 + s.id.toNat) (V.int .i64 ((s.log.length : Nat) : Int)), out) := by
    rw [Nat.zero_add]; exact e
  rw [show ((c + (s.log.length - c) : Nat) : Int) = ((s.log.length : Nat) : Int) from by omega] at e
  have ef : (((s.log.length : Nat) : Int) - s.commit).toNat + 1 = s.log.length - c + 1 := by omega
  have e2 : impl_server_advance_l2 ((((s.log.length : Nat) : Int) - s.commit).toNat + 1) ((s.log.length : Nat) : Int) (s.b 1 2 3 4 5) s.log s.votes (s.next.set (0 + s.id.toNat) (V.int .i64 (((s.log.length : Nat) : Int) + 1))) (s.mtch.set (0 + s.id.toNat) (V.int .i64 ((s.log.length : Nat) : Int))) out = some (ix, ({ s.mark with commit := ((scanC s.mark c (s.log.length - c) : Nat) : Int) } : ND).b 1 2 3 4 5, s.log, s.votes, s.next.set (0 + s.id.toNat) (V.int .i64 (((s.log.length : Nat) : Int) + 1)), s.mtch.set (0 + s.id.toNat) (V.int .i64 ((s.log.length : Nat) : Int)), out) := by rw [ef]; exact e
  have hadv : s.adv = ({ s.mark with commit := ((scanC s.mark c (s.log.length - c) : Nat) : Int) } : ND) := by
    unfold ND.adv
    rw [show s.commit.toNat = c from by omega]
  rw [hadv]
  refine Eq.trans (congrArg (fun o => Option.bind o _) e2) ?_
  simp only [Option.bind_some, Nat.zero_add]
  cases Nat.beq ix 0 <;> rfl
theorem impl_send_eq {s : ND} {out : List V} (hW : W_Node s.v) (hz : zS z_Item s.log ≤ 4000000) {to : Nat} (h : NextOk s.v to) (ho : out.length ≤ 100000) : impl_server_send (s.sv out) (to : Int) = some (s.sv (out ++ [addN s.v to])) := by
  unfold impl_server_send
  rw [show n_impl_Node (s.sv out) = n_impl_Node s.v from rfl, impl_entries_eq hW hz h, show gl (s.sv out) 11 = out from rfl]
  simp only [Option.bind_some]
  rw [roomyB (n := out.length + 1) (by omega) (by omega)]
  rfl
theorem impl_sendAll_eq {s : ND} {out : List V} (hW : W_Node s.v) (hz : zS z_Item s.log ≤ 4000000) (hv : s.votes.length ≤ 1000) (hN : ∀ i, i < s.votes.length → (i : Int) ≠ s.id → NextOk s.v i) (ho : out.length ≤ 1000) :
    impl_server_sendAll (s.sv out) = some (s.sv (out ++ msgsN s.v s.votes.length)) := by
  have hoth := impl_others_eq (n := s.v) (show s.votes.length ≤ 1000 from hv)
  rw [show gi s.v 0 = s.id from rfl, show gl s.v 8 = s.votes from rfl] at hoth
  let L : List Nat := (List.range s.votes.length).filter fun i : Nat => !decide ((i : Int) = s.id)
  have hL : othersN s.id s.votes.length = L.map fun i : Nat => V.int .i64 (i : Int) := rfl
  have hM : msgsN s.v s.votes.length = L.map (addN s.v) := rfl
  have hlen : L.length ≤ 1000 := Nat.le_trans (List.length_filter_le _ _) (by simpa using hv)
  have hmem : ∀ j ∈ L, NextOk s.v j := fun j hj => by
    obtain ⟨h1, h2⟩ := List.mem_filter.1 hj
    exact hN j (List.mem_range.1 h1) (by simpa using h2)
  have key := loop_run0 (F := fun m r i => impl_server_sendAll_l1 m (L.length : Int) i (s.b 2 3 4 5 6) (L.map fun i : Nat => V.int .i64 (i : Int)) s.log s.votes s.next s.mtch r) (n := L.length) (fun i r => r = out ++ (L.take i).map (addN s.v)) (fun o => o = some (s.b 1 2 3 4 5, s.log, s.votes, s.next, s.mtch, out ++ L.map (addN s.v))) ?_ ?_ (s := out) (by simp)
  · unfold impl_server_sendAll
    rw [show n_impl_Node (s.sv out) = n_impl_Node s.v from rfl, hoth, hL, hM]
    simp only [Option.bind_some]
    rw [fuel_eq, List.length_map]
    have key : impl_server_sendAll_l1 (L.length + 1) (L.length : Int) 0 (s.b 2 3 4 5 6) (L.map fun i : Nat => V.int .i64 (i : Int)) s.log s.votes s.next s.mtch out = _ := key
    exact Eq.trans (congrArg (fun o => Option.bind o _) key) rfl
  · intro m i r hi hI
    have hrl : r.length ≤ 2000 := by rw [hI]; simp; omega
    have hrd : rd (L.map fun i : Nat => V.int .i64 (i : Int)) i = V.int .i64 ((L[i] : Nat) : Int) := by simp [rd, List.getD, hi]
    have es := impl_send_eq (out := r) hW hz (to := L[i]) (hmem _ (List.getElem_mem hi)) (by omega)
    refine .inl ⟨r ++ [addN s.v L[i]], ?_, by rw [hI, List.take_add_one, List.getElem?_eq_getElem hi, List.map_append]; simp⟩
    show impl_server_sendAll_l1 (m + 1) _ (i : Int) _ _ _ _ _ _ _ = _
    rw [impl_server_sendAll_l1]
    have es' : impl_server_send (V.agg [(V.int .i64 s.id), (V.int .i64 s.term), (V.int .i64 s.vote), (V.inl t_impl_Item s.log), (V.int .i64 s.commit), (V.int .i64 s.role), (V.int .i64 s.lead), (V.int .i64 s.wait), (V.inl t_bool s.votes), (V.inl t_int' s.next), (V.inl t_int' s.mtch), (V.inl t_impl_Msg r)]) ((L[i] : Nat) : Int) = some (s.sv (r ++ [addN s.v L[i]])) := es
    simp only [ND.b, gi_c0, gi_cs, lt_nat hi, idxOk_nat (show i < (L.map fun i : Nat => V.int .i64 (i : Int)).length by simpa using hi), Int.toNat_natCast, Nat.zero_add, cond_true, hrd, show ∀ (k : IntKind) (x : Int), gi (V.int k x) 0 = x from fun _ _ => rfl, es', Option.bind_some, wr_succ hi (show L.length ≤ 9223372036854775807 by omega)]
    rfl
  · intro m r hI
    rw [List.take_length] at hI
    show impl_server_sendAll_l1 (m + 1) _ _ _ _ _ _ _ _ _ = _
    rw [impl_server_sendAll_l1, lt_self, hI]; rfl
end Go.Eng.R
open Go Go.Eng
namespace Go.Eng.R
end Go.Eng.R
open Go Go.Eng
namespace Go.Eng.R
end Go.Eng.R
open Go Go.Eng
namespace Go.Eng.R
def ownD (n : V) : ND := { ND.of n with log := (gl n 3).map n_impl_Item }
theorem clone_bool_eq {l : List V} (h : l.length ≤ 4000000) : slices_Clone_bool l = some l := by
  unfold slices_Clone_bool; rw [roomyB (by omega) (by omega)]; rfl
theorem clone_int_eq {l : List V} (h : l.length ≤ 4000000) : slices_Clone_int l = some l := by
  unfold slices_Clone_int; rw [roomyB (by omega) (by omega)]; rfl
theorem impl_own_eq {n : V} (hn : W_Node n) (hz : zS z_Item (gl n 3) ≤ 4000000) (h8 : (gl n 8).length ≤ 1000) (h9 : (gl n 9).length ≤ 1000) (h10 : (gl n 10).length ≤ 1000) : impl_Node_own (n_impl_Node n) = some (ownD n).v := by
  unfold impl_Node_own
  simp only [show gl (n_impl_Node n) 3 = gl n 3 from rfl, show gl (n_impl_Node n) 8 = gl n 8 from rfl, show gl (n_impl_Node n) 9 = gl n 9 from rfl, show gl (n_impl_Node n) 10 = gl n 10 from rfl, impl_ownItems_eq hn.2.2.2.1 hz, clone_bool_eq (l := gl n 8) (by omega), clone_int_eq (l := gl n 9) (by omega), clone_int_eq (l := gl n 10) (by omega), Option.bind_some]
  rfl
theorem ownD_W {n : V} (hn : W_Node n) : W_Node (ownD n).v :=
  ⟨hn.1, hn.2.1, hn.2.2.1, LW.map (h := n_impl_Item) (fun x hx => hx) hn.2.2.2.1, hn.2.2.2.2.1, hn.2.2.2.2.2.1, hn.2.2.2.2.2.2.1, hn.2.2.2.2.2.2.2.1, hn.2.2.2.2.2.2.2.2.1, hn.2.2.2.2.2.2.2.2.2.1, hn.2.2.2.2.2.2.2.2.2.2⟩
def Nrm (l : List V) : Prop := l.map n_impl_Item = l
theorem nrm_map (l : List V) : Nrm (l.map n_impl_Item) := by unfold Nrm; rw [List.map_map]; rfl
theorem nrm_append {a b : List V} (ha : Nrm a) (hb : Nrm b) : Nrm (a ++ b) := by unfold Nrm at *; rw [List.map_append, ha, hb]
theorem scanC_le (s : ND) (c : Nat) : ∀ j, scanC s c j ≤ c + j
  | 0 => Nat.le_refl _
  | j + 1 => by
    have := scanC_le s c j
    simp only [scanC]
    cases (decide (termL s.log (c + (j + 1)) = s.term) && decide ((s.votes.length : Int) < 2 * ((cntGe (((c + (j + 1) : Nat)) : Int) s.mtch : Nat) : Int))) <;> simp <;> omega
theorem LW_set {w : V → Prop} {l : List V} (h : LW w l) {x : V} (hx : w x) (i : Nat) : LW w (l.set i x) :=
  ⟨by simpa using h.1, fun y hy => (List.mem_or_eq_of_mem_set hy).elim (h.2 y) fun e => e ▸ hx⟩
theorem adv_W {s : ND} (hW : W_Node s.v) (hL : s.log.length ≤ 1000) (hc0 : 0 ≤ s.commit) (hc1 : s.commit ≤ (s.log.length : Int)) : W_Node s.adv.v := by
  have h1 := scanC_le s.mark s.commit.toNat (s.log.length - s.commit.toNat)
  refine ⟨hW.1, hW.2.1, hW.2.2.1, hW.2.2.2.1, ⟨?_, ?_⟩, hW.2.2.2.2.2.1, hW.2.2.2.2.2.2.1, hW.2.2.2.2.2.2.2.1, hW.2.2.2.2.2.2.2.2.1, ?_, ?_⟩
  · show (-9223372036854775808 : Int) ≤ ((scanC s.mark s.commit.toNat (s.log.length - s.commit.toNat) : Nat) : Int); omega
  · show ((scanC s.mark s.commit.toNat (s.log.length - s.commit.toNat) : Nat) : Int) ≤ 9223372036854775807; omega
  · exact LW_set (w := W_int) hW.2.2.2.2.2.2.2.2.2.1 ⟨by show (-9223372036854775808 : Int) ≤ ((s.log.length : Nat) : Int) + 1; omega, by show ((s.log.length : Nat) : Int) + 1 ≤ 9223372036854775807; omega⟩ _
  · exact LW_set (w := W_int) hW.2.2.2.2.2.2.2.2.2.2 ⟨by show (-9223372036854775808 : Int) ≤ ((s.log.length : Nat) : Int); omega, by show ((s.log.length : Nat) : Int) ≤ 9223372036854775807; omega⟩ _
theorem rd_set_ne {l : List V} {i j : Nat} (h : j ≠ i) (x : V) : rd (l.set i x) j = rd l j := by simp [rd, List.getD, Ne.symm h]
theorem adv_next {s : ND} (hi0 : 0 ≤ s.id) {i : Nat} (hi : (i : Int) ≠ s.id) (h : NextOk s.v i) : NextOk s.adv.v i := by
  obtain ⟨h1, h2, h3, h4⟩ := h
  have e : rd (gl s.adv.v 9) i = rd (gl s.v 9) i := rd_set_ne (l := s.next) (by omega) _
  refine ⟨?_, by rw [e]; exact h2, by rw [e]; exact h3, h4⟩
  show i < (s.next.set _ _).length
  rw [List.length_set]; exact h1
theorem msgs_W {s : ND} (hW : W_Node s.v) (hv : s.votes.length ≤ 1000) (hN : ∀ i, i < s.votes.length → (i : Int) ≠ s.id → NextOk s.v i) : LW W_Msg (msgsN s.v s.votes.length) := by
  refine ⟨by have := msgsN_len s.v s.votes.length; omega, fun m hm => ?_⟩
  obtain ⟨i, hi, rfl⟩ := List.mem_map.1 hm
  obtain ⟨h1, h2⟩ := List.mem_filter.1 hi
  have h1 := List.mem_range.1 h1
  have hne : (i : Int) ≠ gi s.v 0 := by simpa using h2
  exact addN_W hW (hN i h1 hne) (by omega)
theorem sumL_bound {f : V → Nat} {l : List V} {B : Nat} (h : ∀ x ∈ l, f x ≤ B) : sumL f l ≤ l.length * B := by
  induction l with
  | nil => simp [sumL]
  | cons x l ih =>
    have h1 := h x (by simp)
    have h2 := ih fun y hy => h y (by simp [hy])
    simp only [sumL, List.length_cons, Nat.add_mul]; omega
theorem addN_c {n : V} {to : Nat} (hz : zS z_Item (gl n 3) ≤ 4000000) : c_Msg (addN n to) ≤ 100000010 := by
  have h1 := addN_ct (n := n) (to := to) hz
  have : c_Msg (addN n to) = 8 + ct_Msg (addN n to) := by simp only [c_Msg, ct_Msg]; omega
  omega
theorem msgs_c {s : ND} (hz : zS z_Item s.log ≤ 4000000) {N : Nat} (hv : N ≤ 5) : sumL c_Msg (msgsN s.v N) ≤ 600000000 := by
  have h1 := sumL_bound (f := c_Msg) (l := msgsN s.v N) (B := 100000010) fun m hm => by
    obtain ⟨i, hi, rfl⟩ := List.mem_map.1 hm
    exact addN_c hz
  have h2 := msgsN_len s.v N
  have : (msgsN s.v N).length * 100000010 ≤ 5 * 100000010 := Nat.mul_le_mul_right _ (by omega)
  omega
theorem msgs_own {s : ND} {N : Nat} : (msgsN s.v N).map ownM = msgsN s.v N := by
  unfold msgsN
  rw [List.map_map]
  congr 1
  funext i
  exact ownM_addN _ _
theorem msgs_items {s : ND} (hW : W_Node s.v) (hz : zS z_Item s.log ≤ 4000000) {N : Nat} : ∀ m ∈ msgsN s.v N, LW W_Item (gl m 6) ∧ zS z_Item (gl m 6) ≤ 4000000 := by
  intro m hm
  obtain ⟨i, hi, rfl⟩ := List.mem_map.1 hm
  have h6 := itemsN_z (n := s.v) (prevN s.v i)
  exact ⟨itemsN_W hW _, by show zS z_Item (itemsN s.v (prevN s.v i)) ≤ _; have : zS z_Item (gl s.v 3) ≤ 4000000 := hz; omega⟩
end Go.Eng.R
open Go Go.Eng
namespace Go.Eng.R
structure LeadOk (s : ND) : Prop where
  W : W_Node s.v
  id0 : 0 ≤ s.id
  idn : s.id < (s.mtch.length : Int)
  next : s.next.length = s.mtch.length
  votes : s.votes.length = s.mtch.length
  few : s.mtch.length ≤ 5
  log : s.log.length ≤ 401
  com0 : 0 ≤ s.commit
  com1 : s.commit ≤ (s.log.length : Int)
  size : zS z_Item s.log ≤ 4000000
  nexts : ∀ i, i < s.votes.length → (i : Int) ≠ s.id → NextOk s.v i
theorem LeadOk.adv {s : ND} (h : LeadOk s) : W_Node s.adv.v ∧ ∀ i, i < s.adv.votes.length → (i : Int) ≠ s.adv.id → NextOk s.adv.v i :=
  ⟨adv_W h.W (by have := h.log; omega) h.com0 h.com1, fun i hi hne => adv_next h.id0 hne (h.nexts i hi hne)⟩
theorem LeadOk.impl {s : ND} (h : LeadOk s) {out : List V} (ho : out.length ≤ 1000) : (Option.bind (impl_server_advance (s.sv out)) fun r => impl_server_sendAll (n_impl_server r)) = some (s.adv.sv (out ++ msgsN s.adv.v s.votes.length)) := by
  have hf := h.few; have hl := h.log
  rw [impl_advance_eq h.id0 h.idn h.next h.votes (by omega) (by omega) h.com0 h.com1, Option.bind_some]
  exact impl_sendAll_eq (s := s.adv) h.adv.1 h.size (show s.votes.length ≤ 1000 by have := h.votes; omega) h.adv.2 ho
theorem zS_append (z : V → Nat) (a b : List V) : zS z (a ++ b) = zS z a + zS z b := by simp only [zS, sumL_append, List.length_append]; omega
structure StepOk' (s : ND) (l : List V) : Prop where
  W : W_Node s.v
  nrm : Nrm s.log
  size : zS z_Item s.log ≤ 3000000
  votes : s.votes.length ≤ 5
  next : s.next.length ≤ 5
  mtch : s.mtch.length ≤ 5
  own : l.map ownM = l
  few : l.length ≤ 1000
  items : ∀ m ∈ l, LW W_Item (gl m 6) ∧ zS z_Item (gl m 6) ≤ 4000000
  msgs : LW W_Msg l
  marks : sumL c_Msg l ≤ 600000000
theorem StepOk'.none {s : ND} (hW : W_Node s.v) (hn : Nrm s.log) (hz : zS z_Item s.log ≤ 3000000) (h1 : s.votes.length ≤ 5) (h2 : s.next.length ≤ 5) (h3 : s.mtch.length ≤ 5) : StepOk' s [] :=
  ⟨hW, hn, hz, h1, h2, h3, rfl, by simp, by simp, LW.nil, by decide⟩
theorem StepOk'.led {s : ND} (h : LeadOk s) (hn : Nrm s.log) (hz : zS z_Item s.log ≤ 3000000) : StepOk' s.adv (msgsN s.adv.v s.votes.length) := by
  have hv := h.votes; have hf := h.few; have hx := h.next
  have hmw : LW W_Msg (msgsN s.adv.v s.votes.length) := msgs_W (s := s.adv) h.adv.1 (show s.votes.length ≤ 1000 by omega) h.adv.2
  have hml := msgsN_len s.adv.v s.votes.length
  exact ⟨h.adv.1, hn, hz, by show s.votes.length ≤ 5; omega, by show (s.next.set _ _).length ≤ 5; rw [List.length_set]; omega, by show (s.mtch.set _ _).length ≤ 5; rw [List.length_set]; omega,
    msgs_own (s := s.adv), by omega, msgs_items (s := s.adv) h.adv.1 (by show zS z_Item s.log ≤ _; omega), hmw, msgs_c (s := s.adv) (by show zS z_Item s.log ≤ _; omega) (by omega)⟩
structure OwnOk (n : V) (k : Int) (s : ND) : Prop where
  eq : s = ownD n
  p : NodeP n k
  W : W_Node s.v
  nrm : Nrm s.log
  size : zS z_Item s.log ≤ 1048576
  len : s.log.length = (gl n 3).length
theorem own_ok {n : V} {k : Int} (hn : W_Node n) (hz : zS z_Item (gl n 3) ≤ 1048576) (hp : NodeP n k) : OwnOk n k (ownD n) :=
  ⟨rfl, hp, ownD_W hn, nrm_map _, by rw [show zS z_Item (ownD n).log = zS z_Item (gl n 3) from zS_map (f := z_Item) (g := z_Item) (h := n_impl_Item) (fun x => rfl) _]; exact hz, List.length_map _⟩
theorem OwnOk.fields {n : V} {k : Int} {s : ND} (h : OwnOk n k s) : s.id = gi n 0 ∧ s.term = gi n 1 ∧ s.vote = gi n 2 ∧ s.commit = gi n 4 ∧ s.role = gi n 5 ∧ s.lead = gi n 6 ∧ s.wait = gi n 7 ∧ s.votes = gl n 8 ∧ s.next = gl n 9 ∧ s.mtch = gl n 10 := by
  rw [h.eq]; exact ⟨rfl, rfl, rfl, rfl, rfl, rfl, rfl, rfl, rfl, rfl⟩
theorem OwnOk.lead {n : V} {k : Int} {s : ND} (h : OwnOk n k s) (h2 : s.role = 2) {x : V} (hx : W_Item x) (hxz : z_Item x ≤ 1048576) (hlt : s.log.length ≤ 400) : LeadOk { s with log := s.log ++ [x] } ∧ zS z_Item (s.log ++ [x]) ≤ 3000000 := by
  obtain ⟨f0, f1, f2, f4, f5, f6, f7, f8, f9, f10⟩ := h.fields
  have hp := h.p; have hW := h.W; have hl := h.len; have hs := h.size
  have h8 := hp.lvotes; have h9 := hp.lnext; have h10 := hp.lmatch; have hk5 := hp.k5
  have hll : (s.log ++ [x]).length = s.log.length + 1 := by rw [List.length_append, List.length_singleton]
  have hsz : zS z_Item [x] = 1 + z_Item x := by simp [zS, sumL]
  have hz2 : zS z_Item (s.log ++ [x]) ≤ 3000000 := by rw [zS_append, hsz]; omega
  have hW2 : W_Node ({ s with log := s.log ++ [x] } : ND).v := by
    refine ⟨hW.1, hW.2.1, hW.2.2.1, ⟨?_, ?_⟩, hW.2.2.2.2.1, hW.2.2.2.2.2.1, hW.2.2.2.2.2.2.1, hW.2.2.2.2.2.2.2.1, hW.2.2.2.2.2.2.2.2.1, hW.2.2.2.2.2.2.2.2.2.1, hW.2.2.2.2.2.2.2.2.2.2⟩
    · show (s.log ++ [x]).length ≤ _
      rw [hll]; omega
    · intro y hy
      have hy : y ∈ s.log ++ [x] := hy
      rcases List.mem_append.1 hy with hy | hy
      · exact hW.2.2.2.1.2 y hy
      · obtain rfl := List.mem_singleton.1 hy
        exact hx
  have hnx : ∀ i, i < s.votes.length → (i : Int) ≠ s.id → NextOk ({ s with log := s.log ++ [x] } : ND).v i := fun i hi hne => by
    rw [f8] at hi
    obtain ⟨q1, q2, q3, q4⟩ := nextOk_of hp (by rw [← f5]; exact h2) (to := i) (by omega)
    refine ⟨?_, ?_, ?_, ?_⟩
    · show i < s.next.length; rw [f9]; exact q1
    · show 1 ≤ gi (rd s.next i) 0; rw [f9]; exact q2
    · show gi (rd s.next i) 0 ≤ (((s.log ++ [x]).length : Nat) : Int) + 1; rw [f9, hll]; omega
    · show (s.log ++ [x]).length ≤ 401; rw [hll]; omega
  have c0 := hp.com0; have c1 := hp.com1; have i0 := hp.id0; have ik := hp.idk
  refine ⟨⟨hW2, ?_, ?_, ?_, ?_, ?_, ?_, ?_, ?_, ?_, hnx⟩, hz2⟩
  · show 0 ≤ s.id; omega
  · show s.id < ((s.mtch.length : Nat) : Int); rw [f10]; omega
  · show s.next.length = s.mtch.length; rw [f9, f10]; omega
  · show s.votes.length = s.mtch.length; rw [f8, f10]; omega
  · show s.mtch.length ≤ 5; rw [f10]; omega
  · show (s.log ++ [x]).length ≤ 401; rw [hll]; omega
  · show 0 ≤ s.commit; omega
  · show s.commit ≤ (((s.log ++ [x]).length : Nat) : Int); rw [hll]; omega
  · show zS z_Item (s.log ++ [x]) ≤ 4000000; omega
end Go.Eng.R
