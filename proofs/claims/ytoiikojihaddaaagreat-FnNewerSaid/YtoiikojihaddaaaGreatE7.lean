/- An own evaluator of the program's form, proved sound, and what it says of this law's functions: part 7. -/
import Derived.Test.YtoiikojihaddaaaGreatE6
set_option linter.unusedVariables false

open Go Go.Eng Go.Proofs
namespace Go.Eng.R
noncomputable def c41 : Cfg := cfgOf (P := Tryz.prog) (tab := tab) [] false []
def a41_0 (r_ : List V × Int) : List (Ex × St) := [((Ex.exit 0), (⟨[(0, (V.inl t_byte r_.1)), (3, (vi r_.2))], [], 0, []⟩ : St))]
def s41_0 : SS := ⟨[(0, (.one (.inl t_byte))), (3, (.one (.int .i64))), (4, (.one (.int .i64)))], [], 0, []⟩
noncomputable def l41_0 : LE := le0 3 s41_0 (fun st => spec_l1New_l3 ((((((sv st 0).L).length : Nat) : Int) - ((sv st 2).I)).toNat + 1) ((sv st 0).L) ((sv st 1).I) ((sv st 2).I)) a41_0
noncomputable def L41 : Loops := ⟨fun k => (look [(3, [0, 3, 4])] k).getD [], fun _ => [], fun k => (look [(3, [0, 3])] k).getD [], runL [l41_0], [], fun _ => []⟩
theorem t41_0 (k_ : Nat) : ∀ (code0 : List V) (h3 : Int) (i4 : Int), Agr id (pk0 a41_0) (spec_l1New_l3 k_ code0 h3 i4) (rounds c41 L41 (lpB Tryz.f41 0) k_ (s41_0.mk' (stv [V.inl 0 code0, vi h3, vi i4] []))) := by
  induction k_ with
  | zero => exact fun _ _ _ => g0
  | succ k_ ih => exact fun _ _ _ => gA (g1 (g1 (g1 (ih _ _ _) g0) g4) g4) (by kernel_rfl)
theorem o41 : LoopsOk c41 L41 (bodyOf Tryz.f41) := GoodAll.ok (l := [l41_0]) (.cons 0 (by kernel_rfl) (gd0 (fun st => (((((sv st 0).L).length : Nat) : Int) - ((sv st 2).I)).toNat + 1) (fun st => t41_0 _ _ _ _) fun st => by kernel_rfl) (.nil)) rfl
noncomputable def e41 : En Tryz.prog tab := enP base [] false [] Tryz.func41 (L := L41) o41 [(.one (.inl t_byte))] (fun a => spec_l1New ((rd a 0).L)) (fun r_ : V => ((V.nb t_spec_l1Cur (l0 r_)), [])) [[(.inl t_byte)]] [] [some t_byte] false (by kernel_rfl) fun _ => gA (g2 fun _ => g4) (by kernel_rfl)
noncomputable def e104 : En Tryz.prog tab := enP base [] false [] Tryz.func104 noLo [(.rf t_spec_l1Cur [(.inl t_byte), (.int .i64), (.int .i64)])] (fun a => spec_l1Byte ((rd a 0).unbox)) (fun r_ : Int × V => ((vi r_.1), [(V.rf t_spec_l1Cur (l0 r_.2))])) [] [[(.inl t_byte)]] [none] false (by kernel_rfl) fun _ => gA (g1 (g1 g4 g0) g4) (by kernel_rfl)
set_option maxRecDepth 100000 in
noncomputable def e55 : En Tryz.prog tab := enP base [e104] false [] Tryz.func55 noLo [(.rf t_spec_l1Cur [(.inl t_byte), (.int .i64), (.int .i64)]), (.one (.int .i64))] (fun a => spec_l1Below ((rd a 0).unbox) ((rd a 1).I)) (fun r_ : Int × V => ((vi r_.1), [(V.rf t_spec_l1Cur (l0 r_.2))])) [] [[(.inl t_byte)]] [none, none] false (by kernel_rfl) fun _ => gA (g1 g4 (g1 (g2 fun _ => g1 g4 g0) (g2 fun _ => g2 fun _ => g2 fun _ => g2 fun _ => g1 g4 g0))) (by kernel_rfl)
noncomputable def e92 : En Tryz.prog tab := enP base [e55] false [] Tryz.func92 noLo [(.rf t_spec_l1Cur [(.inl t_byte), (.int .i64), (.int .i64)]), (.one (.inl t_int'))] (fun a => spec_l1PickInt ((rd a 0).unbox) ((rd a 1).L)) (fun r_ : Int × V => ((vi r_.1), [(V.rf t_spec_l1Cur (l0 r_.2))])) [] [[(.inl t_byte)]] [none, some t_int'] false (by kernel_rfl) fun _ => gA (g2 fun _ => g1 g4 g0) (by kernel_rfl)
noncomputable def e70 : En Tryz.prog tab := enP base [e92] false [] Tryz.func70 noLo [(.rf t_spec_l1Cur [(.inl t_byte), (.int .i64), (.int .i64)])] (fun a => spec_l4count ((rd a 0).unbox)) (fun r_ : Int × V => ((vi r_.1), [(V.rf t_spec_l1Cur (l0 r_.2))])) [] [[(.inl t_byte)]] [none] false (by kernel_rfl) fun _ => gA (g2 fun _ => g4) (by kernel_rfl)
noncomputable def e155 : En Tryz.prog tab := enP base [] false [] Tryz.func155 noLo [(.one (.int .i64)), (.one (.int .i64))] (fun a => spec_l4new ((rd a 0).I) ((rd a 1).I)) (fun r_ : V => ((h1 r_), [])) [q2] [] [none, none] false (by kernel_rfl) fun _ => gA (g1 (g1 (g1 g4 g0) g0) g0) (by kernel_rfl)
noncomputable def e186 : En Tryz.prog tab := enP base [e55] false [] Tryz.func186 noLo [(.rf t_spec_l1Cur [(.inl t_byte), (.int .i64), (.int .i64)])] (fun a => spec_l2drawVal ((rd a 0).unbox)) (fun r_ : List V × V => ((V.inl t_byte r_.1), [(V.rf t_spec_l1Cur (l0 r_.2))])) [[(.inl t_byte)]] [[(.inl t_byte)]] [none] false (by kernel_rfl) fun _ => gA (g2 fun _ => g1 g4 g0) (by kernel_rfl)
noncomputable def e187 : En Tryz.prog tab := enP base [e55] false [] Tryz.func187 noLo [(.rf t_spec_l1Cur [(.inl t_byte), (.int .i64), (.int .i64)])] (fun a => spec_l2drawKey ((rd a 0).unbox)) (fun r_ : List V × V => ((V.inl t_byte r_.1), [(V.rf t_spec_l1Cur (l0 r_.2))])) [[(.inl t_byte)]] [[(.inl t_byte)]] [none] false (by kernel_rfl) fun _ => gA (g2 fun _ => g1 g4 g0) (by kernel_rfl)
set_option maxRecDepth 100000 in
noncomputable def e157 : En Tryz.prog tab := enP base [e92, e186, e187, e55] false [] Tryz.func157 noLo [(.rf t_spec_l1Cur [(.inl t_byte), (.int .i64), (.int .i64)]), (.one (.int .i64))] (fun a => spec_l2op ((rd a 0).unbox) ((rd a 1).I)) (fun r_ : V × V => ((n_impl_Op r_.1), [(V.rf t_spec_l1Cur (l0 r_.2))])) [[.dead, (.inl t_byte), (.inl t_byte)]] [[(.inl t_byte)]] [none, none] false (by kernel_rfl) fun _ => gA (g2 fun _ => g1 (g2 fun _ => g1 (g1 (g1 (g2 fun _ => g1 (g2 fun _ => g4) (g1 (g2 fun _ => g2 fun _ => g4) (g1 (g2 fun _ => g1 (g2 fun _ => g4) g4) (g1 (g2 fun _ => g1 (g2 fun _ => g4) g4) (g1 (g2 fun _ => g1 (g2 fun _ => g4) g4) g4))))) (g1 (g2 fun _ => g4) (g1 (g2 fun _ => g2 fun _ => g4) (g1 (g2 fun _ => g1 (g2 fun _ => g4) g4) (g1 (g2 fun _ => g1 (g2 fun _ => g4) g4) (g1 (g2 fun _ => g1 (g2 fun _ => g4) g4) g4)))))) (g1 (g2 fun _ => g4) (g1 (g2 fun _ => g2 fun _ => g4) (g1 (g2 fun _ => g1 (g2 fun _ => g4) g4) (g1 (g2 fun _ => g1 (g2 fun _ => g4) g4) (g1 (g2 fun _ => g1 (g2 fun _ => g4) g4) g4)))))) (g1 (g2 fun _ => g4) (g1 (g2 fun _ => g2 fun _ => g4) (g1 (g2 fun _ => g1 (g2 fun _ => g4) g4) (g1 (g2 fun _ => g1 (g2 fun _ => g4) g4) (g1 (g2 fun _ => g1 (g2 fun _ => g4) g4) g4)))))) (g1 (g2 fun _ => g1 (g1 (g1 (g2 fun _ => g1 (g2 fun _ => g4) (g1 (g2 fun _ => g2 fun _ => g4) (g1 (g2 fun _ => g1 (g2 fun _ => g4) g4) (g1 (g2 fun _ => g1 (g2 fun _ => g4) g4) (g1 (g2 fun _ => g1 (g2 fun _ => g4) g4) g4))))) (g1 (g2 fun _ => g4) (g1 (g2 fun _ => g2 fun _ => g4) (g1 (g2 fun _ => g1 (g2 fun _ => g4) g4) (g1 (g2 fun _ => g1 (g2 fun _ => g4) g4) (g1 (g2 fun _ => g1 (g2 fun _ => g4) g4) g4)))))) (g1 (g2 fun _ => g4) (g1 (g2 fun _ => g2 fun _ => g4) (g1 (g2 fun _ => g1 (g2 fun _ => g4) g4) (g1 (g2 fun _ => g1 (g2 fun _ => g4) g4) (g1 (g2 fun _ => g1 (g2 fun _ => g4) g4) g4)))))) (g1 (g2 fun _ => g4) (g1 (g2 fun _ => g2 fun _ => g4) (g1 (g2 fun _ => g1 (g2 fun _ => g4) g4) (g1 (g2 fun _ => g1 (g2 fun _ => g4) g4) (g1 (g2 fun _ => g1 (g2 fun _ => g4) g4) g4)))))) (g1 (g2 fun _ => g1 (g1 (g1 (g2 fun _ => g1 (g2 fun _ => g4) (g1 (g2 fun _ => g2 fun _ => g4) (g1 (g2 fun _ => g1 (g2 fun _ => g4) g4) (g1 (g2 fun _ => g1 (g2 fun _ => g4) g4) (g1 (g2 fun _ => g1 (g2 fun _ => g4) g4) g4))))) (g1 (g2 fun _ => g4) (g1 (g2 fun _ => g2 fun _ => g4) (g1 (g2 fun _ => g1 (g2 fun _ => g4) g4) (g1 (g2 fun _ => g1 (g2 fun _ => g4) g4) (g1 (g2 fun _ => g1 (g2 fun _ => g4) g4) g4)))))) (g1 (g2 fun _ => g4) (g1 (g2 fun _ => g2 fun _ => g4) (g1 (g2 fun _ => g1 (g2 fun _ => g4) g4) (g1 (g2 fun _ => g1 (g2 fun _ => g4) g4) (g1 (g2 fun _ => g1 (g2 fun _ => g4) g4) g4)))))) (g1 (g2 fun _ => g4) (g1 (g2 fun _ => g2 fun _ => g4) (g1 (g2 fun _ => g1 (g2 fun _ => g4) g4) (g1 (g2 fun _ => g1 (g2 fun _ => g4) g4) (g1 (g2 fun _ => g1 (g2 fun _ => g4) g4) g4)))))) (g1 (g1 (g1 (g2 fun _ => g1 (g2 fun _ => g4) (g1 (g2 fun _ => g2 fun _ => g4) (g1 (g2 fun _ => g1 (g2 fun _ => g4) g4) (g1 (g2 fun _ => g1 (g2 fun _ => g4) g4) (g1 (g2 fun _ => g1 (g2 fun _ => g4) g4) g4))))) (g1 (g2 fun _ => g4) (g1 (g2 fun _ => g2 fun _ => g4) (g1 (g2 fun _ => g1 (g2 fun _ => g4) g4) (g1 (g2 fun _ => g1 (g2 fun _ => g4) g4) (g1 (g2 fun _ => g1 (g2 fun _ => g4) g4) g4)))))) (g1 (g2 fun _ => g4) (g1 (g2 fun _ => g2 fun _ => g4) (g1 (g2 fun _ => g1 (g2 fun _ => g4) g4) (g1 (g2 fun _ => g1 (g2 fun _ => g4) g4) (g1 (g2 fun _ => g1 (g2 fun _ => g4) g4) g4)))))) (g1 (g2 fun _ => g4) (g1 (g2 fun _ => g2 fun _ => g4) (g1 (g2 fun _ => g1 (g2 fun _ => g4) g4) (g1 (g2 fun _ => g1 (g2 fun _ => g4) g4) (g1 (g2 fun _ => g1 (g2 fun _ => g4) g4) g4))))))))) (by kernel_rfl)
noncomputable def e64 : En Tryz.prog tab := enP base [e55] false [] Tryz.func64 noLo [(.rf t_spec_l1Cur [(.inl t_byte), (.int .i64), (.int .i64)]), (.one (.int .i64))] (fun a => spec_l1Once ((rd a 0).unbox) ((rd a 1).I)) (fun r_ : Bool × V => ((V.bool r_.1), [(V.rf t_spec_l1Cur (l0 r_.2))])) [] [[(.inl t_byte)]] [none, none] false (by kernel_rfl) fun _ => gA (g2 fun _ => g4) (by kernel_rfl)
noncomputable def e111 : En Tryz.prog tab := enP base [e55, e157, e64] false [] Tryz.func111 noLo [(.rf t_spec_l1Cur [(.inl t_byte), (.int .i64), (.int .i64)]), (.one (.int .i64))] (fun a => spec_l3drawItem ((rd a 0).unbox) ((rd a 1).I)) (fun r_ : V × V => ((n_impl_Item r_.1), [(V.rf t_spec_l1Cur (l0 r_.2))])) [q3] [[(.inl t_byte)]] [none, none] false (by kernel_rfl) fun _ => gA (g2 fun _ => g2 fun _ => g2 fun _ => g2 fun _ => g1 g4 g4) (by kernel_rfl)
noncomputable def c156 : Cfg := cfgOf (P := Tryz.prog) (tab := tab) [e55, e111] false []
def a156_0 (r_ : V × List V) : List (Ex × St) := [((Ex.exit 0), (⟨[(5, (vs 1 t_impl_Item))], [(0, some (Blk.box t_spec_l1Cur (l0 r_.1))), (1, some (Blk.row t_impl_Item false r_.2))], 2, [0]⟩ : St))]
def s156_0 : SS := ⟨[(0, (.one (.bp 0 0))), (1, (.one (.int .i64))), (5, (.one (.sl 1 t_impl_Item))), (6, (.one (.int .i64))), (7, (.one (.int .i64)))], [(.box t_spec_l1Cur [(.inl t_byte), (.int .i64), (.int .i64)]), (.row t_impl_Item false)], 2, [0]⟩
noncomputable def l156_0 : LE := le0 4 s156_0 (fun st => spec_l3drawLog_l4 ((((sv st 1).I) - ((sv st 4).I)).toNat + 1) ((sv st 1).I) ((sv st 3).I) ((sv st 4).I) (bc st 0) (br st 1)) a156_0
noncomputable def L156 : Loops := ⟨fun k => (look [(4, [0, 1, 5, 6, 7])] k).getD [], fun k => (look [(4, [⟨5, none, false⟩])] k).getD [], fun k => (look [(4, [5])] k).getD [], runL [l156_0], [], fun _ => []⟩
theorem t156_0 (k_ : Nat) : ∀ (n1 : Int) (t6 : Int) (i7 : Int) (b0 : V) (r1 : List V), Agr id (pk0 a156_0) (spec_l3drawLog_l4 k_ n1 t6 i7 b0 r1) (rounds c156 L156 (lpB Tryz.f156 0) k_ (s156_0.mk' (stv [.dead, vi n1, .dead, vi t6, vi i7] [bx b0, rb r1]))) := by
  induction k_ with
  | zero => exact fun _ _ _ _ _ => g0
  | succ k_ ih => exact fun _ _ _ _ _ => gA (g1 (g2 fun _ => g2 fun _ => g1 (ih _ _ _ _ _) g0) g4) (by kernel_rfl)
theorem o156 : LoopsOk c156 L156 (bodyOf Tryz.f156) := GoodAll.ok (l := [l156_0]) (.cons 0 (by kernel_rfl) (gd0 (fun st => (((sv st 1).I) - ((sv st 4).I)).toNat + 1) (fun st => t156_0 _ _ _ _ _ _) fun st => by kernel_rfl) (.nil)) rfl
noncomputable def e156 : En Tryz.prog tab := enP base [e55, e111] false [] Tryz.func156 (L := L156) o156 [(.rf t_spec_l1Cur [(.inl t_byte), (.int .i64), (.int .i64)]), (.one (.int .i64))] (fun a => spec_l3drawLog ((rd a 0).unbox) ((rd a 1).I)) (fun r_ : List V × V => ((V.rr t_impl_Item false r_.1), [(V.rf t_spec_l1Cur (l0 r_.2))])) [[(.rr t_impl_Item false)]] [[(.inl t_byte)]] [none, none] false (by kernel_rfl) fun _ => gA (g2 fun _ => g4) (by kernel_rfl)
noncomputable def e73 : En Tryz.prog tab := enP base [] false [] Tryz.func73 noLo [(.ep q4 0), (.one (.int .i64))] (fun a => spec_l4termAt ((rd a 0).unbox) ((rd a 1).I)) (fun r_ : Int => ((vi r_), [])) [] [] [none, none] false (by kernel_rfl) fun _ => gA (g1 g4 (g1 g4 (g1 g4 g0))) (by kernel_rfl)
noncomputable def c110 : Cfg := cfgOf (P := Tryz.prog) (tab := tab) [e55, e155, e156, e73, e64] false [73]
def a110_0 (r_ : V × V × V × List V × List V × List V × List V × List V × List V × List V × List V) : List (Ex × St) := [((Ex.exit 1), (⟨[(4, (V.bp 1 0)), (5, (V.bp 2 0))], [(0, some (Blk.box t_spec_l1Cur (l0 r_.1))), (1, some (Blk.box t_impl_Node (l5 r_.2.1))), (2, some (Blk.box t_impl_Node (l6 r_.2.2.1))), (3, some (Blk.row t_impl_Item true r_.2.2.2.1)), (4, some (Blk.row t_bool true r_.2.2.2.2.1)), (5, some (Blk.row t_int' true r_.2.2.2.2.2.1)), (6, some (Blk.row t_int' true r_.2.2.2.2.2.2.1)), (7, some (Blk.row t_impl_Item false r_.2.2.2.2.2.2.2.1)), (8, some (Blk.row t_bool true r_.2.2.2.2.2.2.2.2.1)), (9, some (Blk.row t_int' true r_.2.2.2.2.2.2.2.2.2.1)), (10, some (Blk.row t_int' true r_.2.2.2.2.2.2.2.2.2.2))], 11, [0]⟩ : St))]
def s110_0 : SS := ⟨[(0, (.one (.bp 0 0))), (1, (.one (.int .i64))), (4, (.one (.bp 1 0))), (5, (.one (.bp 2 0))), (6, (.one (.int .i64))), (7, (.one (.int .i64)))], [(.box t_spec_l1Cur [(.inl t_byte), (.int .i64), (.int .i64)]), (.box t_impl_Node q7), (.box t_impl_Node q8), (.row t_impl_Item true), (.row t_bool true), (.row t_int' true), (.row t_int' true), (.row t_impl_Item false), (.row t_bool true), (.row t_int' true), (.row t_int' true)], 11, [0]⟩
noncomputable def l110_0 : LE := le0 26 s110_0 (fun st => spec_l4node_l26 ((((sv st 1).I) - ((sv st 5).I)).toNat + 1) ((sv st 1).I) ((sv st 4).I) ((sv st 5).I) (bc st 0) (bc st 1) (bc st 2) (br st 3) (br st 4) (br st 5) (br st 6) (br st 7) (br st 8) (br st 9) (br st 10)) a110_0
noncomputable def L110 : Loops := ⟨fun k => (look [(26, [0, 1, 4, 5, 6, 7])] k).getD [], fun k => (look [(26, [⟨4, some 3, true⟩, ⟨4, some 8, true⟩, ⟨4, some 9, true⟩, ⟨4, some 10, true⟩])] k).getD [], fun k => (look [(26, [4, 5])] k).getD [], runL [l110_0], [], fun _ => []⟩
set_option maxRecDepth 100000 in
theorem t110_0 (k_ : Nat) : ∀ (servers1 : Int) (k6 : Int) (i7 : Int) (b0 : V) (b1 : V) (b2 : V) (r3 : List V) (r4 : List V) (r5 : List V) (r6 : List V) (r7 : List V) (r8 : List V) (r9 : List V) (r10 : List V), Agr id (pk0 a110_0) (spec_l4node_l26 k_ servers1 k6 i7 b0 b1 b2 r3 r4 r5 r6 r7 r8 r9 r10) (rounds c110 L110 (lpB Tryz.f110 0) k_ (s110_0.mk' (stv [.dead, vi servers1, .dead, .dead, vi k6, vi i7] [bx b0, bx b1, bx b2, rb r3, rb r4, rb r5, rb r6, rb r7, rb r8, rb r9, rb r10]))) := by
  induction k_ with
  | zero => exact fun _ _ _ _ _ _ _ _ _ _ _ _ _ _ => g0
  | succ k_ ih => exact fun _ _ _ _ _ _ _ _ _ _ _ _ _ _ => gA (g1 (g2 fun _ => g1 (g1 (g1 (g2 fun _ => g1 (g2 fun _ => g1 (ih _ _ _ _ _ _ _ _ _ _ _ _ _ _) g0) (ih _ _ _ _ _ _ _ _ _ _ _ _ _ _)) g0) g0) g0) g4) (by kernel_rfl)
theorem o110 : LoopsOk c110 L110 (bodyOf Tryz.f110) := GoodAll.ok (l := [l110_0]) (.cons 0 (by kernel_rfl) (gd0 (fun st => (((sv st 1).I) - ((sv st 5).I)).toNat + 1) (fun st => t110_0 _ _ _ _ _ _ _ _ _ _ _ _ _ _ _) fun st => by kernel_rfl) (.nil)) rfl
set_option maxRecDepth 100000 in
noncomputable def e110 : En Tryz.prog tab := enP base [e55, e155, e156, e73, e64] false [73] Tryz.func110 (L := L110) o110 [(.rf t_spec_l1Cur [(.inl t_byte), (.int .i64), (.int .i64)]), (.one (.int .i64))] (fun a => spec_l4node ((rd a 0).unbox) ((rd a 1).I)) (fun r_ : V × V => ((h9 r_.1), [(V.rf t_spec_l1Cur (l0 r_.2))])) [q10] [[(.inl t_byte)]] [none, none] false (by kernel_rfl) fun _ => gA (g2 fun _ => g2 fun _ => g2 fun _ => g2 fun _ => g2 fun _ => g2 fun _ => g2 fun _ => g2 fun _ => g2 fun _ => g2 fun _ => g1 g4 (g2 fun _ => g1 (g1 (g2 fun _ => g1 (g2 fun _ => g1 g4 g0) g4) g0) (g1 (g1 (g2 fun _ => g4) g0) (g1 (g1 (g2 fun _ => g4) g0) g4)))) (by kernel_rfl)
noncomputable def c71 : Cfg := cfgOf (P := Tryz.prog) (tab := tab) [e110, e64, e55, e92, e111] false []
def a71_0 (r_ : V × V × V × List V × List V × List V × List V × List V × List V × List V × List V) : List (Ex × St) := [((Ex.exit 1), (⟨[(4, (V.bp 1 0)), (5, (V.bp 2 0))], [(0, some (Blk.box t_spec_l1Cur (l0 r_.1))), (1, some (Blk.box t_impl_Node (l5 r_.2.1))), (2, some (Blk.box t_impl_Node (l6 r_.2.2.1))), (3, some (Blk.row t_impl_Item true r_.2.2.2.1)), (4, some (Blk.row t_bool true r_.2.2.2.2.1)), (5, some (Blk.row t_int' true r_.2.2.2.2.2.1)), (6, some (Blk.row t_int' true r_.2.2.2.2.2.2.1)), (7, some (Blk.row t_impl_Item false r_.2.2.2.2.2.2.2.1)), (8, some (Blk.row t_bool true r_.2.2.2.2.2.2.2.2.1)), (9, some (Blk.row t_int' true r_.2.2.2.2.2.2.2.2.2.1)), (10, some (Blk.row t_int' true r_.2.2.2.2.2.2.2.2.2.2))], 11, [0]⟩ : St))]
def s71_0 : SS := ⟨[(0, (.one (.bp 0 0))), (4, (.one (.bp 1 0))), (5, (.one (.bp 2 0)))], [(.box t_spec_l1Cur [(.inl t_byte), (.int .i64), (.int .i64)]), (.box t_impl_Node q7), (.box t_impl_Node q8), (.row t_impl_Item true), (.row t_bool true), (.row t_int' true), (.row t_int' true), (.row t_impl_Item false), (.row t_bool true), (.row t_int' true), (.row t_int' true)], 11, [0]⟩
noncomputable def l71_0 : LE := le0 5 s71_0 (fun st => spec_l4bent_l5 ((401 - (br st 7).length) + 1) (bc st 0) (bc st 1) (bc st 2) (br st 3) (br st 4) (br st 5) (br st 6) (br st 7) (br st 8) (br st 9) (br st 10)) a71_0
noncomputable def L71 : Loops := ⟨fun k => (look [(5, [0, 4, 5])] k).getD [], fun k => (look [(5, [⟨4, some 3, true⟩, ⟨4, some 8, true⟩, ⟨4, some 9, true⟩, ⟨4, some 10, true⟩])] k).getD [], fun k => (look [(5, [4, 5])] k).getD [], runL [l71_0], [], fun _ => []⟩
theorem t71_0 (k_ : Nat) : ∀ (b0 : V) (b1 : V) (b2 : V) (r3 : List V) (r4 : List V) (r5 : List V) (r6 : List V) (r7 : List V) (r8 : List V) (r9 : List V) (r10 : List V), Agr id (pk0 a71_0) (spec_l4bent_l5 k_ b0 b1 b2 r3 r4 r5 r6 r7 r8 r9 r10) (rounds c71 L71 (lpB Tryz.f71 0) k_ (s71_0.mk' (stv [] [bx b0, bx b1, bx b2, rb r3, rb r4, rb r5, rb r6, rb r7, rb r8, rb r9, rb r10]))) := by
  induction k_ with
  | zero => exact fun _ _ _ _ _ _ _ _ _ _ _ => g0
  | succ k_ ih => exact fun _ _ _ _ _ _ _ _ _ _ _ => gA (g2 fun _ => g1 (g1 (ih _ _ _ _ _ _ _ _ _ _ _) g0) g4) (by kernel_rfl)
theorem o71 : LoopsOk c71 L71 (bodyOf Tryz.f71) := GoodAll.ok (l := [l71_0]) (.cons 0 (by kernel_rfl) (gd0 (fun st => (401 - (br st 7).length) + 1) (fun st => t71_0 _ _ _ _ _ _ _ _ _ _ _ _) fun st => by kernel_rfl) (.nil)) rfl
set_option maxRecDepth 100000 in
noncomputable def e71 : En Tryz.prog tab := enP base [e110, e64, e55, e92, e111] false [] Tryz.func71 (L := L71) o71 [(.rf t_spec_l1Cur [(.inl t_byte), (.int .i64), (.int .i64)]), (.one (.int .i64))] (fun a => spec_l4bent ((rd a 0).unbox) ((rd a 1).I)) (fun r_ : V × V => ((h9 r_.1), [(V.rf t_spec_l1Cur (l0 r_.2))])) [q10] [[(.inl t_byte)]] [none, none] false (by kernel_rfl) fun _ => gA (g2 fun _ => g2 fun _ => g1 g4 (g2 fun _ => g1 (g2 fun _ => g4) (g1 (g2 fun _ => g4) (g1 (g2 fun _ => g4) (g1 (g2 fun _ => g4) (g1 (g2 fun _ => g4) (g1 (g2 fun _ => g4) (g1 (g1 g4 g0) (g1 (g2 fun _ => g1 g4 g0) (g1 (g2 fun _ => g1 g4 g0) (g2 fun _ => g4))))))))))) (by kernel_rfl)
noncomputable def e54 : En Tryz.prog tab := enP base [e41, e70, e71, e64, e92] false [] Tryz.func54 noLo [(.one (.inl t_byte))] (fun a => spec_DrawNodeOk ((rd a 0).L)) (fun r_ : V × Int => ((V.tup [(h9 r_.1), (vi r_.2)]), [])) [q10] [] [some t_byte] false (by kernel_rfl) fun _ => gA (g2 fun _ => g2 fun _ => g2 fun _ => g2 fun _ => g1 (g2 fun _ => g4) g4) (by kernel_rfl)
noncomputable def e15 : En Tryz.prog tab := enP base [e41, e54, e55] false [] Tryz.func15 noLo [(.one (.inl t_byte))] (fun a => spec_DrawNewer ((rd a 0).L)) (fun r_ : V × Int × Int × Int => ((V.tup [(h9 r_.1), (vi r_.2.1), (vi r_.2.2.1), (vi r_.2.2.2)]), [])) [q10] [] [some t_byte] false (by kernel_rfl) fun _ => gA (g2 fun _ => g2 fun _ => g2 fun _ => g2 fun _ => g4) (by kernel_rfl)
noncomputable def e56 : En Tryz.prog tab := enT base [] false [] Tryz.func56 noLo [(.one (.int .i64))] (fun a => spec_l4servers ((rd a 0).I)) (fun r_ : Bool => ((V.bool r_), [])) [] [] [none] false (by kernel_rfl) fun _ => gT (g5 g7 g7) (by kernel_rfl)
noncomputable def e57 : En Tryz.prog tab := enT base [] false [] Tryz.func57 noLo [(.one (.int .i64))] (fun a => spec_l3term ((rd a 0).I)) (fun r_ : Bool => ((V.bool r_), [])) [] [] [none] false (by kernel_rfl) fun _ => gT (g5 g7 g7) (by kernel_rfl)
noncomputable def e58 : En Tryz.prog tab := enT base [] false [] Tryz.func58 noLo [(.one (.int .i64)), (.one (.int .i64))] (fun a => spec_l4who ((rd a 0).I) ((rd a 1).I)) (fun r_ : Bool => ((V.bool r_), [])) [] [] [none, none] false (by kernel_rfl) fun _ => gT (g5 g7 g7) (by kernel_rfl)
noncomputable def e182 : En Tryz.prog tab := enT base [] false [] Tryz.func182 noLo [(.one (.inl t_byte))] (fun a => spec_l2val ((rd a 0).L)) (fun r_ : Bool => ((V.bool r_), [])) [] [] [some t_byte] false (by kernel_rfl) fun _ => gT g7 (by kernel_rfl)
noncomputable def e183 : En Tryz.prog tab := enT base [] false [] Tryz.func183 noLo [(.one (.int .i64))] (fun a => spec_l2index ((rd a 0).I)) (fun r_ : Bool => ((V.bool r_), [])) [] [] [none] false (by kernel_rfl) fun _ => gT (g5 g7 g7) (by kernel_rfl)
noncomputable def c184 : Cfg := cfgOf (P := Tryz.prog) (tab := tab) [] false []
def a184_0 (r_ : Nat × Bool) : List (Ex × St) := [(Ex.ret, (⟨[(2, (V.bool r_.2))], [], 0, []⟩ : St)), ((Ex.exit 0), (⟨[(2, V.dead)], [], 0, []⟩ : St))]
def s184_0 : SS := ⟨[(0, (.one (.inl t_byte))), (3, (.one (.int .i64)))], [], 0, []⟩
noncomputable def l184_0 : LE := le1 4 s184_0 (fun st => spec_l2key_l4 ((((((sv st 0).L).length : Nat) : Int) - ((sv st 1).I)).toNat + 1) ((sv st 0).L) ((sv st 1).I)) a184_0
noncomputable def L184 : Loops := ⟨fun k => (look [(4, [0, 3])] k).getD [], fun _ => [], fun k => (look [(4, [2])] k).getD [], runL [l184_0], [], fun _ => []⟩
set_option maxRecDepth 100000 in
theorem t184_0 (k_ : Nat) : ∀ (b0 : List V) (i3 : Int), Agr id (pk1 a184_0) (spec_l2key_l4 k_ b0 i3) (rounds c184 L184 (lpB Tryz.f184 0) k_ (s184_0.mk' (stv [V.inl 0 b0, vi i3] []))) := by
  induction k_ with
  | zero => exact fun _ _ => g0
  | succ k_ ih => exact fun _ _ => gA (g1 (g1 (g1 (g1 (g1 g4 (ih _ _)) g0) (g1 (g1 (g1 (g1 g4 (ih _ _)) g0) (ih _ _)) g0)) g0) g4) (by kernel_rfl)
theorem o184 : LoopsOk c184 L184 (bodyOf Tryz.f184) := GoodAll.ok (l := [l184_0]) (.cons 0 (by kernel_rfl) (gd1 (fun st => (((((sv st 0).L).length : Nat) : Int) - ((sv st 1).I)).toNat + 1) (fun st => t184_0 _ _ _) fun st => by kernel_rfl) (.nil)) rfl
noncomputable def e184 : En Tryz.prog tab := enP base [] false [] Tryz.func184 (L := L184) o184 [(.one (.inl t_byte))] (fun a => spec_l2key ((rd a 0).L)) (fun r_ : Bool => ((V.bool r_), [])) [] [] [some t_byte] false (by kernel_rfl) fun _ => gA (g1 g4 (g1 g4 (g2 fun _ => g1 g4 g4))) (by kernel_rfl)
set_option maxRecDepth 100000 in
noncomputable def e151 : En Tryz.prog tab := enP base [e182, e183, e184] false [] Tryz.func151 noLo [(.agg q11)] (fun a => spec_OpOk (rd a 0)) (fun r_ : Bool => ((V.bool r_), [])) [] [] [none] false (by kernel_rfl) fun _ => gA (g1 g4 (g1 g4 (g1 g4 (g1 g4 (g1 (g2 fun _ => g1 g4 (g1 (g1 g4 (g1 g4 (g1 g4 (g1 g4 (g1 g4 g4))))) (g1 (g1 g4 (g1 g4 (g1 g4 (g1 g4 (g1 g4 g4))))) (g1 (g1 g4 (g1 g4 (g1 g4 (g1 g4 (g1 g4 (g1 g4 g4)))))) (g1 g4 (g1 g4 (g1 g4 (g1 g4 (g1 g4 g4))))))))) (g1 (g2 fun _ => g1 g4 (g1 (g1 g4 (g1 g4 (g1 g4 (g1 g4 (g1 g4 g4))))) (g1 (g1 g4 (g1 g4 (g1 g4 (g1 g4 (g1 g4 g4))))) (g1 (g1 g4 (g1 g4 (g1 g4 (g1 g4 (g1 g4 (g1 g4 g4)))))) (g1 g4 (g1 g4 (g1 g4 (g1 g4 (g1 g4 g4))))))))) (g1 (g2 fun _ => g1 g4 (g1 (g1 g4 (g1 g4 (g1 g4 (g1 g4 (g1 g4 g4))))) (g1 (g1 g4 (g1 g4 (g1 g4 (g1 g4 (g1 g4 g4))))) (g1 (g1 g4 (g1 g4 (g1 g4 (g1 g4 (g1 g4 (g1 g4 g4)))))) (g1 g4 (g1 g4 (g1 g4 (g1 g4 (g1 g4 g4))))))))) (g1 (g2 fun _ => g1 g4 (g1 (g1 g4 (g1 g4 (g1 g4 (g1 g4 (g1 g4 g4))))) (g1 (g1 g4 (g1 g4 (g1 g4 (g1 g4 (g1 g4 g4))))) (g1 (g1 g4 (g1 g4 (g1 g4 (g1 g4 (g1 g4 (g1 g4 g4)))))) (g1 g4 (g1 g4 (g1 g4 (g1 g4 (g1 g4 g4))))))))) (g1 (g2 fun _ => g1 g4 (g1 (g1 g4 (g1 (g1 g4 (g1 g4 (g1 g4 (g1 g4 (g1 g4 g4))))) (g1 (g1 g4 (g1 g4 (g1 g4 (g1 g4 (g1 g4 g4))))) (g1 (g1 g4 (g1 g4 (g1 g4 (g1 g4 (g1 g4 (g1 g4 g4)))))) (g1 g4 (g1 g4 (g1 g4 (g1 g4 (g1 g4 g4))))))))) (g1 (g1 g4 (g1 g4 (g1 g4 (g1 g4 (g1 g4 g4))))) (g1 (g1 g4 (g1 g4 (g1 g4 (g1 g4 (g1 g4 g4))))) (g1 (g1 g4 (g1 g4 (g1 g4 (g1 g4 (g1 g4 (g1 g4 g4)))))) (g1 g4 (g1 g4 (g1 g4 (g1 g4 (g1 g4 g4)))))))))) (g1 (g1 g4 (g1 (g1 g4 (g1 g4 (g1 g4 (g1 g4 (g1 g4 g4))))) (g1 (g1 g4 (g1 g4 (g1 g4 (g1 g4 (g1 g4 g4))))) (g1 (g1 g4 (g1 g4 (g1 g4 (g1 g4 (g1 g4 (g1 g4 g4)))))) (g1 g4 (g1 g4 (g1 g4 (g1 g4 (g1 g4 g4))))))))) (g1 (g1 g4 (g1 g4 (g1 g4 (g1 g4 (g1 g4 g4))))) (g1 (g1 g4 (g1 g4 (g1 g4 (g1 g4 (g1 g4 g4))))) (g1 (g1 g4 (g1 g4 (g1 g4 (g1 g4 (g1 g4 (g1 g4 g4)))))) (g1 g4 (g1 g4 (g1 g4 (g1 g4 (g1 g4 g4)))))))))))))))))) (by kernel_rfl)
set_option maxRecDepth 100000 in
noncomputable def e105 : En Tryz.prog tab := enP base [e151] false [] Tryz.func105 noLo [(.agg q12)] (fun a => spec_CmdOk (rd a 0)) (fun r_ : Bool => ((V.bool r_), [])) [] [] [none] false (by kernel_rfl) fun _ => gA (g1 (g1 (g1 (g2 fun _ => g4) g4) g4) (g1 (g1 (g1 (g1 (g2 fun _ => g4) g4) g4) g4) g4)) (by kernel_rfl)
noncomputable def e59 : En Tryz.prog tab := enP base [e105] false [] Tryz.func59 noLo [(.agg q13)] (fun a => spec_ItemOk (rd a 0)) (fun r_ : Bool => ((V.bool r_), [])) [] [] [none] false (by kernel_rfl) fun _ => gA (g1 (g1 (g2 fun _ => g4) g4) g4) (by kernel_rfl)
noncomputable def c16 : Cfg := cfgOf (P := Tryz.prog) (tab := tab) [e56, e57, e58, e59] false []
def a16_0 (r_ : Nat × Int × Bool × V) : List (Ex × St) := [(Ex.ret, (⟨[(1, (vi r_.2.1)), (2, (V.bp 0 0)), (4, (V.bool r_.2.2.1))], [(0, some (Blk.box t_impl_Node (l14 r_.2.2.2)))], 1, []⟩ : St)), ((Ex.exit 0), (⟨[(1, (vi r_.2.1)), (2, (V.bp 0 0)), (4, V.dead)], [(0, some (Blk.box t_impl_Node (l14 r_.2.2.2)))], 1, []⟩ : St))]
def s16_0 : SS := ⟨[(1, (.one (.int .i64))), (2, (.one (.bp 0 0))), (5, (.one (.int .i64)))], [(.box t_impl_Node q4)], 1, []⟩
noncomputable def l16_0 : LE := le1 4 s16_0 (fun st => spec_NodeOk_l4 (((((gl (bc st 0) 3).length : Nat) : Int) - ((sv st 2).I)).toNat + 1) ((sv st 0).I) ((sv st 2).I) (bc st 0)) a16_0
def a16_1 (r_ : Nat × Bool × V) : List (Ex × St) := [(Ex.ret, (⟨[(2, (V.bp 0 0)), (4, (V.bool r_.2.1))], [(0, some (Blk.box t_impl_Node (l14 r_.2.2)))], 1, []⟩ : St)), ((Ex.exit 2), (⟨[(2, (V.bp 0 0)), (4, V.dead)], [(0, some (Blk.box t_impl_Node (l14 r_.2.2)))], 1, []⟩ : St))]
def s16_1 : SS := ⟨[(1, (.one (.int .i64))), (2, (.one (.bp 0 0))), (6, (.one (.int .i64)))], [(.box t_impl_Node q4)], 1, []⟩
noncomputable def l16_1 : LE := le1 11 s16_1 (fun st => spec_NodeOk_l11 ((((sv st 0).I) - ((sv st 2).I)).toNat + 1) ((sv st 0).I) ((sv st 2).I) (bc st 0)) a16_1
noncomputable def L16 : Loops := ⟨fun k => (look [(4, [1, 2, 5]), (11, [1, 2, 6])] k).getD [], fun _ => [], fun k => (look [(4, [1, 2, 4]), (11, [2, 4])] k).getD [], runL [l16_0, l16_1], [], fun _ => []⟩
set_option maxRecDepth 100000 in
theorem t16_0 (k_ : Nat) : ∀ (servers1 : Int) (i5 : Int) (b0 : V), Agr id (pk1 a16_0) (spec_NodeOk_l4 k_ servers1 i5 b0) (rounds c16 L16 (lpB Tryz.f16 0) k_ (s16_0.mk' (stv [vi servers1, .dead, vi i5] [bx b0]))) := by
  induction k_ with
  | zero => exact fun _ _ _ => g0
  | succ k_ ih => exact fun _ _ _ => gA (g1 (g1 (g2 fun _ => g1 g4 (g1 (g1 g4 (g1 (g1 (g1 (g1 g4 (ih _ _ _)) g0) g0) (ih _ _ _))) g0)) g0) g4) (by kernel_rfl)
set_option maxRecDepth 100000 in
theorem t16_1 (k_ : Nat) : ∀ (servers1 : Int) (i6 : Int) (b0 : V), Agr id (pk1 a16_1) (spec_NodeOk_l11 k_ servers1 i6 b0) (rounds c16 L16 (lpB Tryz.f16 1) k_ (s16_1.mk' (stv [vi servers1, .dead, vi i6] [bx b0]))) := by
  induction k_ with
  | zero => exact fun _ _ _ => g0
  | succ k_ ih => exact fun _ _ _ => gA (g1 (g1 (g1 (g1 g4 (g1 (g1 g4 (g1 (g1 g4 (g1 (g1 g4 (g1 (g1 (g1 g4 (g1 (g1 g4 (g1 (g1 (g1 g4 (ih _ _ _)) g0) (ih _ _ _))) g0)) g0) (g1 (g1 (g1 g4 (ih _ _ _)) g0) (ih _ _ _)))) g0)) g0)) g0)) g0) (g1 (g1 (g1 g4 (g1 (g1 g4 (g1 (g1 (g1 g4 (ih _ _ _)) g0) (ih _ _ _))) g0)) g0) (g1 (g1 (g1 g4 (ih _ _ _)) g0) (ih _ _ _)))) g4) (by kernel_rfl)
theorem o16 : LoopsOk c16 L16 (bodyOf Tryz.f16) := GoodAll.ok (l := [l16_0, l16_1]) (.cons 0 (by kernel_rfl) (gd1 (fun st => ((((gl (bc st 0) 3).length : Nat) : Int) - ((sv st 2).I)).toNat + 1) (fun st => t16_0 _ _ _ _) fun st => by kernel_rfl) (.cons 1 (by kernel_rfl) (gd1 (fun st => (((sv st 0).I) - ((sv st 2).I)).toNat + 1) (fun st => t16_1 _ _ _ _) fun st => by kernel_rfl) (.nil))) rfl
set_option maxRecDepth 100000 in
noncomputable def e16 : En Tryz.prog tab := enP base [e56, e57, e58, e59] false [] Tryz.func16 (L := L16) o16 [(.agg q4), (.one (.int .i64))] (fun a => spec_NodeOk (rd a 0) ((rd a 1).I)) (fun r_ : Bool => ((V.bool r_), [])) [] [] [none, none] false (by kernel_rfl) fun _ => gA (g1 g4 (g1 g4 (g1 g4 (g1 g4 (g1 g4 (g1 g4 (g1 g4 (g1 g4 (g1 g4 (g1 g4 (g1 g4 (g1 g4 (g1 g4 (g1 g4 (g1 g4 (g1 g4 (g2 fun _ => g1 g4 (g1 (g1 g4 (g1 g4 (g2 fun _ => g1 g4 (g1 g4 g4)))) (g2 fun _ => g1 g4 (g1 g4 g4)))))))))))))))))))) (by kernel_rfl)
noncomputable def e80 : En Tryz.prog tab := enT base [] false [] Tryz.func80 noLo [(.one (.int .i64)), (.one (.int .i64)), (.one (.int .i64))] (fun a => impl_within ((rd a 0).I) ((rd a 1).I) ((rd a 2).I)) (fun r_ : Bool => ((V.bool r_), [])) [] [] [none, none, none] false (by kernel_rfl) fun _ => gT (g5 g7 g7) (by kernel_rfl)
noncomputable def e106 : En Tryz.prog tab := enT base [e80] false [] Tryz.func106 noLo [(.one (.int .i64)), (.one (.int .i64))] (fun a => impl_isServer ((rd a 0).I) ((rd a 1).I)) (fun r_ : Bool => ((V.bool r_), [])) [] [] [none, none] false (by kernel_rfl) fun _ => gT (g5 g7 g7) (by kernel_rfl)
noncomputable def e83 : En Tryz.prog tab := enT base [e80] false [] Tryz.func83 noLo [(.one (.int .i64))] (fun a => impl_isTerm ((rd a 0).I)) (fun r_ : Bool => ((V.bool r_), [])) [] [] [none] false (by kernel_rfl) fun _ => gT g7 (by kernel_rfl)
noncomputable def e160 : En Tryz.prog tab := enT base [] false [] Tryz.func160 noLo [] (fun a => impl_noOp) (fun r_ : V => ((h15 r_), [])) [q16] [] [] false (by kernel_rfl) fun _ => gT g7 (by kernel_rfl)
noncomputable def e171 : En Tryz.prog tab := enT base [] false [] Tryz.func171 noLo [(.one (.inl t_byte)), (.one (.inl t_byte))] (fun a => bytes_Equal ((rd a 0).L) ((rd a 1).L)) (fun r_ : Bool => ((V.bool r_), [])) [] [] [some t_byte, some t_byte] false (by kernel_rfl) fun _ => gT g7 (by kernel_rfl)
noncomputable def e133 : En Tryz.prog tab := enT base [e171] false [] Tryz.func133 noLo [(.agg q11), (.agg q11)] (fun a => impl_Op_same (rd a 0) (rd a 1)) (fun r_ : Bool => ((V.bool r_), [])) [] [] [none, none] false (by kernel_rfl) fun _ => gT (g5 (g5 (g5 g7 g7) g7) g7) (by kernel_rfl)
noncomputable def e164 : En Tryz.prog tab := enT base [e133] false [] Tryz.func164 noLo [(.agg q12), (.agg q12)] (fun a => impl_Cmd_same (rd a 0) (rd a 1)) (fun r_ : Bool => ((V.bool r_), [])) [] [] [none, none] false (by kernel_rfl) fun _ => gT (g5 (g5 g7 g7) g7) (by kernel_rfl)
noncomputable def c134 : Cfg := cfgOf (P := Tryz.prog) (tab := tab) [e80] false []
def a134_0 (r_ : Nat × List V × Bool) : List (Ex × St) := [(Ex.ret, (⟨[(0, (V.inl t_byte r_.2.1)), (2, (V.bool r_.2.2))], [], 0, []⟩ : St)), ((Ex.exit 0), (⟨[(0, (V.inl t_byte r_.2.1)), (2, V.dead)], [], 0, []⟩ : St))]
def s134_0 : SS := ⟨[(0, (.one (.inl t_byte))), (5, (.one (.inl t_byte))), (6, (.one (.int .i64))), (7, (.one (.int .i64)))], [], 0, []⟩
noncomputable def l134_0 : LE := le1 2 s134_0 (fun st => impl_KeyOk_l2 ((((sv st 2).I) - ((sv st 3).I)).toNat + 1) ((sv st 0).L) ((sv st 1).L) ((sv st 2).I) ((sv st 3).I)) a134_0
noncomputable def L134 : Loops := ⟨fun k => (look [(2, [0, 5, 6, 7])] k).getD [], fun _ => [], fun k => (look [(2, [0, 2])] k).getD [], runL [l134_0], [], fun _ => []⟩
set_option maxRecDepth 100000 in
theorem t134_0 (k_ : Nat) : ∀ (b0 : List V) (v5 : List V) (v6 : Int) (v7 : Int), Agr id (pk1 a134_0) (impl_KeyOk_l2 k_ b0 v5 v6 v7) (rounds c134 L134 (lpB Tryz.f134 0) k_ (s134_0.mk' (stv [V.inl 0 b0, V.inl 0 v5, vi v6, vi v7] []))) := by
  induction k_ with
  | zero => exact fun _ _ _ _ => g0
  | succ k_ ih => exact fun _ _ _ _ => gA (g1 (g1 (g1 (g1 g4 (ih _ _ _ _)) (g1 (g1 g4 (ih _ _ _ _)) (ih _ _ _ _))) g0) g4) (by kernel_rfl)
theorem o134 : LoopsOk c134 L134 (bodyOf Tryz.f134) := GoodAll.ok (l := [l134_0]) (.cons 0 (by kernel_rfl) (gd1 (fun st => (((sv st 2).I) - ((sv st 3).I)).toNat + 1) (fun st => t134_0 _ _ _ _ _) fun st => by kernel_rfl) (.nil)) rfl
noncomputable def e134 : En Tryz.prog tab := enP base [e80] false [] Tryz.func134 (L := L134) o134 [(.one (.inl t_byte))] (fun a => impl_KeyOk ((rd a 0).L)) (fun r_ : Bool => ((V.bool r_), [])) [] [] [some t_byte] false (by kernel_rfl) fun _ => gA (g2 fun _ => g1 g4 g4) (by kernel_rfl)
noncomputable def e170 : En Tryz.prog tab := enT base [] false [] Tryz.func170 noLo [(.one (.inl t_byte))] (fun a => impl_isValue ((rd a 0).L)) (fun r_ : Bool => ((V.bool r_), [])) [] [] [some t_byte] false (by kernel_rfl) fun _ => gT g7 (by kernel_rfl)
set_option maxRecDepth 100000 in
noncomputable def e132 : En Tryz.prog tab := enP base [e80, e134, e170] false [] Tryz.func132 noLo [(.agg q11)] (fun a => impl_OpOk (rd a 0)) (fun r_ : Bool => ((V.bool r_), [])) [] [] [none] false (by kernel_rfl) fun _ => gA (g1 (g1 (g1 g4 g4) g4) (g1 (g1 (g2 fun _ => g1 (g1 g4 g4) g4) g4) (g1 (g1 (g2 fun _ => g1 (g1 g4 g4) g4) g4) (g1 (g1 (g2 fun _ => g1 g4 g4) g4) (g1 (g1 (g1 g4 g4) g4) (g1 (g1 (g1 g4 g4) g4) (g1 (g1 (g2 fun _ => g1 (g1 g4 g4) g4) g4) (g1 (g1 (g2 fun _ => g1 g4 g4) g4) g4)))))))) (by kernel_rfl)
noncomputable def e122 : En Tryz.prog tab := enP base [e160, e164, e80, e132] false [] Tryz.func122 noLo [(.agg q12)] (fun a => impl_CmdOk (rd a 0)) (fun r_ : Bool => ((V.bool r_), [])) [] [] [none] false (by kernel_rfl) fun _ => gA (g1 g4 (g1 (g1 (g2 fun _ => g4) g4) g4)) (by kernel_rfl)
noncomputable def e84 : En Tryz.prog tab := enP base [e83, e122] false [] Tryz.func84 noLo [(.agg q13)] (fun a => impl_ItemOk (rd a 0)) (fun r_ : Bool => ((V.bool r_), [])) [] [] [none] false (by kernel_rfl) fun _ => gA (g1 (g2 fun _ => g4) g4) (by kernel_rfl)
noncomputable def c152 : Cfg := cfgOf (P := Tryz.prog) (tab := tab) [] false []
def a152_0 (r_ : Nat × Int) : List (Ex × St) := [(Ex.ret, (⟨[(4, (vi r_.2))], [], 0, []⟩ : St)), ((Ex.exit 0), (⟨[(4, V.dead)], [], 0, []⟩ : St))]
def s152_0 : SS := ⟨[(0, (.one (.inl t_bool))), (1, (.one .bool)), (7, (.one (.int .i64))), (8, (.one (.int .i64)))], [], 0, []⟩
noncomputable def l152_0 : LE := le1 2 s152_0 (fun st => slices_Index_bool_l2 ((((sv st 2).I) - ((sv st 3).I)).toNat + 1) ((sv st 0).L) ((sv st 1).B) ((sv st 2).I) ((sv st 3).I)) a152_0
noncomputable def L152 : Loops := ⟨fun k => (look [(2, [0, 1, 7, 8])] k).getD [], fun _ => [], fun k => (look [(2, [4])] k).getD [], runL [l152_0], [], fun _ => []⟩
theorem t152_0 (k_ : Nat) : ∀ (s0 : List V) (v1 : Bool) (v7 : Int) (v8 : Int), Agr id (pk1 a152_0) (slices_Index_bool_l2 k_ s0 v1 v7 v8) (rounds c152 L152 (lpB Tryz.f152 0) k_ (s152_0.mk' (stv [V.inl 0 s0, V.bool v1, vi v7, vi v8] []))) := by
  induction k_ with
  | zero => exact fun _ _ _ _ => g0
  | succ k_ ih => exact fun _ _ _ _ => gA (g1 (g1 (g1 g4 (ih _ _ _ _)) g0) g4) (by kernel_rfl)
theorem o152 : LoopsOk c152 L152 (bodyOf Tryz.f152) := GoodAll.ok (l := [l152_0]) (.cons 0 (by kernel_rfl) (gd1 (fun st => (((sv st 2).I) - ((sv st 3).I)).toNat + 1) (fun st => t152_0 _ _ _ _ _) fun st => by kernel_rfl) (.nil)) rfl
noncomputable def e152 : En Tryz.prog tab := enP base [] false [] Tryz.func152 (L := L152) o152 [(.one (.inl t_bool)), (.one .bool)] (fun a => slices_Index_bool ((rd a 0).L) ((rd a 1).B)) (fun r_ : Int => ((vi r_), [])) [] [] [some t_bool, none] false (by kernel_rfl) fun _ => gA (g2 fun _ => g1 g4 g4) (by kernel_rfl)
noncomputable def e107 : En Tryz.prog tab := enP base [e152] false [] Tryz.func107 noLo [(.one (.inl t_bool)), (.one .bool)] (fun a => slices_Contains_bool ((rd a 0).L) ((rd a 1).B)) (fun r_ : Bool => ((V.bool r_), [])) [] [] [some t_bool, none] false (by kernel_rfl) fun _ => gA (g2 fun _ => g4) (by kernel_rfl)
noncomputable def c60 : Cfg := cfgOf (P := Tryz.prog) (tab := tab) [e106, e80, e84, e107] false []
def a60_0 (r_ : Nat × Int × Bool × V) : List (Ex × St) := [(Ex.ret, (⟨[(1, (vi r_.2.1)), (2, (V.bp 0 0)), (4, (V.bool r_.2.2.1))], [(0, some (Blk.box t_impl_Node (l14 r_.2.2.2)))], 1, []⟩ : St)), ((Ex.exit 0), (⟨[(1, (vi r_.2.1)), (2, (V.bp 0 0)), (4, V.dead)], [(0, some (Blk.box t_impl_Node (l14 r_.2.2.2)))], 1, []⟩ : St))]
def s60_0 : SS := ⟨[(1, (.one (.int .i64))), (2, (.one (.bp 0 0))), (5, (.one (.int .i64))), (43, (.one (.inl t_impl_Item))), (44, (.one (.int .i64))), (45, (.one (.int .i64)))], [(.box t_impl_Node q4)], 1, []⟩
noncomputable def l60_0 : LE := le1 5 s60_0 (fun st => impl_NodeOk_l5 ((((sv st 4).I) - ((sv st 5).I)).toNat + 1) ((sv st 0).I) ((sv st 2).I) ((sv st 3).L) ((sv st 4).I) ((sv st 5).I) (bc st 0)) a60_0
def a60_1 (r_ : Nat × Bool) : List (Ex × St) := [(Ex.ret, (⟨[(4, (V.bool r_.2))], [], 0, []⟩ : St)), ((Ex.exit 2), (⟨[(4, V.dead)], [], 0, []⟩ : St))]
def s60_1 : SS := ⟨[(2, (.one (.bp 0 0))), (141, (.one (.int .i64))), (142, (.one (.int .i64)))], [(.box t_impl_Node q4)], 1, []⟩
noncomputable def l60_1 : LE := le1 16 s60_1 (fun st => impl_NodeOk_l16 ((((sv st 1).I) - ((sv st 2).I)).toNat + 1) ((sv st 1).I) ((sv st 2).I) (bc st 0)) a60_1
noncomputable def L60 : Loops := ⟨fun k => (look [(5, [1, 2, 5, 43, 44, 45]), (16, [2, 141, 142])] k).getD [], fun _ => [], fun k => (look [(5, [1, 2, 4]), (16, [4])] k).getD [], runL [l60_0, l60_1], [], fun _ => []⟩
theorem t60_0 (k_ : Nat) : ∀ (servers1 : Int) (term5 : Int) (v43 : List V) (v44 : Int) (v45 : Int) (b0 : V), Agr id (pk1 a60_0) (impl_NodeOk_l5 k_ servers1 term5 v43 v44 v45 b0) (rounds c60 L60 (lpB Tryz.f60 0) k_ (s60_0.mk' (stv [vi servers1, .dead, vi term5, V.inl 0 v43, vi v44, vi v45] [bx b0]))) := by
  induction k_ with
  | zero => exact fun _ _ _ _ _ _ => g0
  | succ k_ ih => exact fun _ _ _ _ _ _ => gA (g1 (g1 (g2 fun _ => g1 g4 (g1 g4 (ih _ _ _ _ _ _))) g0) g4) (by kernel_rfl)
set_option maxRecDepth 100000 in
theorem t60_1 (k_ : Nat) : ∀ (v141 : Int) (v142 : Int) (b0 : V), Agr id (pk1 a60_1) (impl_NodeOk_l16 k_ v141 v142 b0) (rounds c60 L60 (lpB Tryz.f60 1) k_ (s60_1.mk' (stv [.dead, vi v141, vi v142] [bx b0]))) := by
  induction k_ with
  | zero => exact fun _ _ _ => g0
  | succ k_ ih => exact fun _ _ _ => gA (g1 (g1 (g1 (g1 g4 (g1 (g1 g4 (g1 (g1 (g1 g4 (g1 (g1 g4 (ih _ _ _)) g0)) g0) (ih _ _ _))) g0)) g0) (g1 (g1 (g1 g4 (g1 (g1 g4 (ih _ _ _)) g0)) g0) (ih _ _ _))) g4) (by kernel_rfl)
theorem o60 : LoopsOk c60 L60 (bodyOf Tryz.f60) := GoodAll.ok (l := [l60_0, l60_1]) (.cons 0 (by kernel_rfl) (gd1 (fun st => (((sv st 4).I) - ((sv st 5).I)).toNat + 1) (fun st => t60_0 _ _ _ _ _ _ _) fun st => by kernel_rfl) (.cons 1 (by kernel_rfl) (gd1 (fun st => (((sv st 1).I) - ((sv st 2).I)).toNat + 1) (fun st => t60_1 _ _ _ _) fun st => by kernel_rfl) (.nil))) rfl
set_option maxRecDepth 100000 in
noncomputable def e60 : En Tryz.prog tab := enP base [e106, e80, e84, e107] false [] Tryz.func60 (L := L60) o60 [(.agg q4), (.one (.int .i64))] (fun a => impl_NodeOk (rd a 0) ((rd a 1).I)) (fun r_ : Bool => ((V.bool r_), [])) [] [] [none, none] false (by kernel_rfl) fun _ => gA (g1 g4 (g1 g4 (g1 g4 (g1 g4 (g1 g4 (g2 fun _ => g1 g4 (g1 g4 (g1 g4 (g1 g4 (g1 g4 (g1 g4 (g1 g4 (g1 (g2 fun _ => g1 g4 (g1 (g1 g4 (g1 g4 (g1 (g1 g4 (g2 fun _ => g1 g4 g4)) (g2 fun _ => g1 g4 g4)))) (g1 (g1 g4 (g2 fun _ => g1 g4 g4)) (g2 fun _ => g1 g4 g4)))) (g1 (g1 g4 (g1 g4 (g1 (g1 g4 (g2 fun _ => g1 g4 g4)) (g2 fun _ => g1 g4 g4)))) (g1 (g1 g4 (g2 fun _ => g1 g4 g4)) (g2 fun _ => g1 g4 g4)))))))))))))))) (by kernel_rfl)
noncomputable def e62 : En Tryz.prog tab := enP base [e80] false [] Tryz.func62 noLo [(.agg q4), (.one (.int .i64))] (fun a => impl_Node_termAt (rd a 0) ((rd a 1).I)) (fun r_ : Int => ((vi r_), [])) [] [] [none, none] false (by kernel_rfl) fun _ => gA (g1 g4 (g1 g4 g0)) (by kernel_rfl)
noncomputable def e108 : En Tryz.prog tab := enP base [e62] false [] Tryz.func108 noLo [(.agg q4)] (fun a => impl_Node_lastTerm (rd a 0)) (fun r_ : Int => ((vi r_), [])) [] [] [none] false (by kernel_rfl) fun _ => gA (g2 fun _ => g4) (by kernel_rfl)
noncomputable def e61 : En Tryz.prog tab := enP base [e108] false [] Tryz.func61 noLo [(.agg q4), (.one (.int .i64)), (.one (.int .i64))] (fun a => impl_Node_newer (rd a 0) ((rd a 1).I) ((rd a 2).I)) (fun r_ : Bool => ((V.bool r_), [])) [] [] [none, none, none] false (by kernel_rfl) fun _ => gA (g2 fun _ => g1 g4 (g2 fun _ => g1 g4 g4)) (by kernel_rfl)
noncomputable def e17 : En Tryz.prog tab := enP base [e60, e61] false [] Tryz.func17 noLo [(.agg q4), (.one (.int .i64)), (.one (.int .i64)), (.one (.int .i64))] (fun a => impl_Newer (rd a 0) ((rd a 1).I) ((rd a 2).I) ((rd a 3).I)) (fun r_ : Bool => ((V.bool r_), [])) [] [] [none, none, none, none] false (by kernel_rfl) fun _ => gA (g2 fun _ => g1 (g2 fun _ => g4) g4) (by kernel_rfl)
noncomputable def e12 : En Tryz.prog tab := enB Tryz.func12 (by kernel_rfl) alive12
noncomputable def e18 : En Tryz.prog tab := enP base [e60, e62] false [] Tryz.func18 noLo [(.agg q4), (.one (.int .i64)), (.one (.int .i64))] (fun a => impl_TermAt (rd a 0) ((rd a 1).I) ((rd a 2).I)) (fun r_ : Int => ((vi r_), [])) [] [] [none, none, none] false (by kernel_rfl) fun _ => gA (g2 fun _ => g1 g4 (g2 fun _ => g4)) (by kernel_rfl)
set_option maxRecDepth 100000 in
noncomputable def e4 : En Tryz.prog tab := enP base [e15, e16, e17, e12, e18] false [] Tryz.func4 noLo [(.one (.inl t_byte))] (fun a => laws_FnNewer ((rd a 0).L)) (fun r_ : Bool => ((V.bool r_), [])) [] [] [some t_byte] false (by kernel_rfl) fun _ => gA (g2 fun _ => g2 fun _ => g1 (g2 fun _ => g1 g4 g4) (g2 fun _ => g2 fun _ => g1 g4 (g2 fun _ => g1 g4 (g1 g4 (g1 (g1 g4 (g2 fun _ => g4)) (g2 fun _ => g4)))))) (by kernel_rfl)
end Go.Eng.R
open Go Go.Eng
namespace Go.Eng.R
def M_byte (x : V) (k : Int) : Prop := gi x 0 = IntKind.u8.wrap k
def M_int (x : V) (k : Int) : Prop := gi x 0 = k
def M_bool (x : V) (k : Int) : Prop := gb x 0 = decide (k.tmod 3 = 0)
def cnv_byte (x : V) : V := .int .u8 (gi x 0)
def cnv_int (x : V) : V := .int .i64 (gi x 0)
def cnv_bool (x : V) : V := .bool (gb x 0)
theorem cnv_int_W (x : V) (h : W_int x) : W_int (cnv_int x) := h
theorem cnv_int_z (x : V) : z0 (cnv_int x) = z0 x := rfl
theorem cnv_int_c (x : V) : c1 (cnv_int x) = c1 x := rfl
theorem cnv_bool_W (x : V) (h : W_bool x) : W_bool (cnv_bool x) := h
theorem cnv_bool_z (x : V) : z0 (cnv_bool x) = z0 x := rfl
theorem cnv_bool_c (x : V) : c1 (cnv_bool x) = c1 x := rfl
theorem cnv_byte_W (x : V) (h : W_byte x) : W_byte (cnv_byte x) := h
theorem cnv_byte_z (x : V) : z0 (cnv_byte x) = z0 x := rfl
theorem cnv_byte_c (x : V) : c1 (cnv_byte x) = c1 x := rfl
def W_Member (x : V) : Prop := I64 (gi x 0) ∧ I64 (gi x 1) ∧ I64 (gi x 2)
def z_Member (x : V) : Nat := 0
def c_Member (x : V) : Nat := 1 + 1 + 1
def ct_Member (x : V) : Nat := 0
def M_Member (x : V) (k : Int) : Prop := gi x 0 = k ∧ gi x 1 = k + 1 ∧ gi x 2 = k + 1 + 1
def cnv_Member (x : V) : V := V.agg [(V.int .i64 (gi x 0)), (V.int .i64 (gi x 1)), (V.int .i64 (gi x 2))]
theorem cnv_Member_W (x : V) (h : W_Member x) : W_Member (cnv_Member x) := ⟨h.1, h.2.1, h.2.2⟩
theorem cnv_Member_z (x : V) : z_Member (cnv_Member x) = z_Member x := rfl
theorem cnv_Member_c (x : V) : c_Member (cnv_Member x) = c_Member x := rfl
theorem cnv_Member_ct (x : V) : ct_Member (cnv_Member x) = ct_Member x := rfl
theorem c_Member_cz (x : V) : c_Member x ≤ 3 * (1 + z_Member x) := by
  simp only [c_Member, z_Member]; omega
theorem ct_Member_cz (x : V) : ct_Member x ≤ 3 * z_Member x := by
  simp only [ct_Member, z_Member]; omega
def W_Table (x : V) : Prop := I64 (gi x 0) ∧ LW W_Member (gl x 1)
def z_Table (x : V) : Nat := zS z_Member (gl x 1)
def c_Table (x : V) : Nat := 1 + sumL c_Member (gl x 1)
def ct_Table (x : V) : Nat := sumL c_Member (gl x 1)
def M_Table (x : V) (k : Int) : Prop := gi x 0 = k ∧ MS c_Member M_Member (gl x 1) (k + 1)
def cnv_Table (x : V) : V := V.agg [(V.int .i64 (gi x 0)), V.inl t_impl_Member ((gl x 1).map cnv_Member)]
theorem cnv_Table_W (x : V) (h : W_Table x) : W_Table (cnv_Table x) := ⟨h.1, LW.map (h := cnv_Member) cnv_Member_W (h.2)⟩
theorem cnv_Table_z (x : V) : z_Table (cnv_Table x) = z_Table x := by
  simp only [z_Table, show gl (cnv_Table x) 1 = (gl x 1).map cnv_Member from rfl, zS_map (h := cnv_Member) cnv_Member_z (gl x 1)]
theorem cnv_Table_c (x : V) : c_Table (cnv_Table x) = c_Table x := by
  simp only [c_Table, show gl (cnv_Table x) 1 = (gl x 1).map cnv_Member from rfl, sumL_map (h := cnv_Member) cnv_Member_c (gl x 1)]
theorem cnv_Table_ct (x : V) : ct_Table (cnv_Table x) = ct_Table x := by
  simp only [ct_Table, show gl (cnv_Table x) 1 = (gl x 1).map cnv_Member from rfl, sumL_map (h := cnv_Member) cnv_Member_c (gl x 1)]
theorem c_Table_cz (x : V) : c_Table x ≤ 3 * (1 + z_Table x) := by
  have h0 : sumL c_Member (gl x 1) ≤ 3 * zS z_Member (gl x 1) := sumL_mul 3 fun y _ => c_Member_cz y
  simp only [c_Table, z_Table]; omega
theorem ct_Table_cz (x : V) : ct_Table x ≤ 3 * z_Table x := by
  have h0 : sumL c_Member (gl x 1) ≤ 3 * zS z_Member (gl x 1) := sumL_mul 3 fun y _ => c_Member_cz y
  simp only [ct_Table, z_Table]; omega
def W_Item (x : V) : Prop := I64 (gi x 0) ∧ I64 (gi x 1) ∧ I64 (gi x 2) ∧ I64 (gi x 3) ∧ LW W_byte (gl x 4) ∧ LW W_byte (gl x 5) ∧ I64 (gi x 6)
def z_Item (x : V) : Nat := zS z0 (gl x 4) + zS z0 (gl x 5)
def c_Item (x : V) : Nat := 1 + 1 + 1 + 1 + sumL c1 (gl x 4) + sumL c1 (gl x 5) + 1
def ct_Item (x : V) : Nat := sumL c1 (gl x 4) + sumL c1 (gl x 5)
def M_Item (x : V) (k : Int) : Prop := gi x 0 = k ∧ gi x 1 = k + 1 ∧ gi x 2 = k + 1 + 1 ∧ gi x 3 = k + 1 + 1 + 1 ∧ MS c1 M_byte (gl x 4) (k + 1 + 1 + 1 + 1) ∧ MS c1 M_byte (gl x 5) (k + 1 + 1 + 1 + 1 + ((sumL c1 (gl x 4) : Nat) : Int)) ∧ gi x 6 = k + 1 + 1 + 1 + 1 + ((sumL c1 (gl x 4) : Nat) : Int) + ((sumL c1 (gl x 5) : Nat) : Int)
def cnv_Item (x : V) : V := V.agg [(V.int .i64 (gi x 0)), (V.int .i64 (gi x 1)), (V.int .i64 (gi x 2)), (V.int .i64 (gi x 3)), V.inl t_byte ((gl x 4).map cnv_byte), V.inl t_byte ((gl x 5).map cnv_byte), (V.int .i64 (gi x 6))]
theorem cnv_Item_W (x : V) (h : W_Item x) : W_Item (cnv_Item x) := ⟨h.1, h.2.1, h.2.2.1, h.2.2.2.1, LW.map (h := cnv_byte) cnv_byte_W (h.2.2.2.2.1), LW.map (h := cnv_byte) cnv_byte_W (h.2.2.2.2.2.1), h.2.2.2.2.2.2⟩
theorem cnv_Item_z (x : V) : z_Item (cnv_Item x) = z_Item x := by
  simp only [z_Item, show gl (cnv_Item x) 4 = (gl x 4).map cnv_byte from rfl, show gl (cnv_Item x) 5 = (gl x 5).map cnv_byte from rfl, zS_map (h := cnv_byte) cnv_byte_z (gl x 4), zS_map (h := cnv_byte) cnv_byte_z (gl x 5)]
theorem cnv_Item_c (x : V) : c_Item (cnv_Item x) = c_Item x := by
  simp only [c_Item, show gl (cnv_Item x) 4 = (gl x 4).map cnv_byte from rfl, show gl (cnv_Item x) 5 = (gl x 5).map cnv_byte from rfl, sumL_map (h := cnv_byte) cnv_byte_c (gl x 4), sumL_map (h := cnv_byte) cnv_byte_c (gl x 5)]
theorem cnv_Item_ct (x : V) : ct_Item (cnv_Item x) = ct_Item x := by
  simp only [ct_Item, show gl (cnv_Item x) 4 = (gl x 4).map cnv_byte from rfl, show gl (cnv_Item x) 5 = (gl x 5).map cnv_byte from rfl, sumL_map (h := cnv_byte) cnv_byte_c (gl x 4), sumL_map (h := cnv_byte) cnv_byte_c (gl x 5)]
theorem c_Item_cz (x : V) : c_Item x ≤ 5 * (1 + z_Item x) := by
  have h0 : sumL c1 (gl x 4) ≤ 1 * zS z0 (gl x 4) := by rw [sumL_c1, zS_z0]; omega
  have h1 : sumL c1 (gl x 5) ≤ 1 * zS z0 (gl x 5) := by rw [sumL_c1, zS_z0]; omega
  simp only [c_Item, z_Item]; omega
theorem ct_Item_cz (x : V) : ct_Item x ≤ 5 * z_Item x := by
  have h0 : sumL c1 (gl x 4) ≤ 1 * zS z0 (gl x 4) := by rw [sumL_c1, zS_z0]; omega
  have h1 : sumL c1 (gl x 5) ≤ 1 * zS z0 (gl x 5) := by rw [sumL_c1, zS_z0]; omega
  simp only [ct_Item, z_Item]; omega
def W_Node (x : V) : Prop := I64 (gi x 0) ∧ I64 (gi x 1) ∧ I64 (gi x 2) ∧ LW W_Item (gl x 3) ∧ I64 (gi x 4) ∧ I64 (gi x 5) ∧ I64 (gi x 6) ∧ I64 (gi x 7) ∧ LW W_bool (gl x 8) ∧ LW W_int (gl x 9) ∧ LW W_int (gl x 10)
def z_Node (x : V) : Nat := zS z_Item (gl x 3) + zS z0 (gl x 8) + zS z0 (gl x 9) + zS z0 (gl x 10)
def c_Node (x : V) : Nat := 1 + 1 + 1 + sumL c_Item (gl x 3) + 1 + 1 + 1 + 1 + sumL c1 (gl x 8) + sumL c1 (gl x 9) + sumL c1 (gl x 10)
def ct_Node (x : V) : Nat := sumL c_Item (gl x 3) + sumL c1 (gl x 8) + sumL c1 (gl x 9) + sumL c1 (gl x 10)
def M_Node (x : V) (k : Int) : Prop := gi x 0 = k ∧ gi x 1 = k + 1 ∧ gi x 2 = k + 1 + 1 ∧ MS c_Item M_Item (gl x 3) (k + 1 + 1 + 1) ∧ gi x 4 = k + 1 + 1 + 1 + ((sumL c_Item (gl x 3) : Nat) : Int) ∧ gi x 5 = k + 1 + 1 + 1 + ((sumL c_Item (gl x 3) : Nat) : Int) + 1 ∧ gi x 6 = k + 1 + 1 + 1 + ((sumL c_Item (gl x 3) : Nat) : Int) + 1 + 1 ∧ gi x 7 = k + 1 + 1 + 1 + ((sumL c_Item (gl x 3) : Nat) : Int) + 1 + 1 + 1 ∧ MS c1 M_bool (gl x 8) (k + 1 + 1 + 1 + ((sumL c_Item (gl x 3) : Nat) : Int) + 1 + 1 + 1 + 1) ∧ MS c1 M_int (gl x 9) (k + 1 + 1 + 1 + ((sumL c_Item (gl x 3) : Nat) : Int) + 1 + 1 + 1 + 1 + ((sumL c1 (gl x 8) : Nat) : Int)) ∧ MS c1 M_int (gl x 10) (k + 1 + 1 + 1 + ((sumL c_Item (gl x 3) : Nat) : Int) + 1 + 1 + 1 + 1 + ((sumL c1 (gl x 8) : Nat) : Int) + ((sumL c1 (gl x 9) : Nat) : Int))
def cnv_Node (x : V) : V := V.agg [(V.int .i64 (gi x 0)), (V.int .i64 (gi x 1)), (V.int .i64 (gi x 2)), V.inl t_impl_Item ((gl x 3).map cnv_Item), (V.int .i64 (gi x 4)), (V.int .i64 (gi x 5)), (V.int .i64 (gi x 6)), (V.int .i64 (gi x 7)), V.inl t_bool ((gl x 8).map cnv_bool), V.inl t_int' ((gl x 9).map cnv_int), V.inl t_int' ((gl x 10).map cnv_int)]
theorem cnv_Node_W (x : V) (h : W_Node x) : W_Node (cnv_Node x) := ⟨h.1, h.2.1, h.2.2.1, LW.map (h := cnv_Item) cnv_Item_W (h.2.2.2.1), h.2.2.2.2.1, h.2.2.2.2.2.1, h.2.2.2.2.2.2.1, h.2.2.2.2.2.2.2.1, LW.map (h := cnv_bool) cnv_bool_W (h.2.2.2.2.2.2.2.2.1), LW.map (h := cnv_int) cnv_int_W (h.2.2.2.2.2.2.2.2.2.1), LW.map (h := cnv_int) cnv_int_W (h.2.2.2.2.2.2.2.2.2.2)⟩
theorem cnv_Node_z (x : V) : z_Node (cnv_Node x) = z_Node x := by
  simp only [z_Node, show gl (cnv_Node x) 3 = (gl x 3).map cnv_Item from rfl, show gl (cnv_Node x) 8 = (gl x 8).map cnv_bool from rfl, show gl (cnv_Node x) 9 = (gl x 9).map cnv_int from rfl, show gl (cnv_Node x) 10 = (gl x 10).map cnv_int from rfl, zS_map (h := cnv_Item) cnv_Item_z (gl x 3), zS_map (h := cnv_bool) cnv_bool_z (gl x 8), zS_map (h := cnv_int) cnv_int_z (gl x 9), zS_map (h := cnv_int) cnv_int_z (gl x 10)]
theorem cnv_Node_c (x : V) : c_Node (cnv_Node x) = c_Node x := by
  simp only [c_Node, show gl (cnv_Node x) 3 = (gl x 3).map cnv_Item from rfl, show gl (cnv_Node x) 8 = (gl x 8).map cnv_bool from rfl, show gl (cnv_Node x) 9 = (gl x 9).map cnv_int from rfl, show gl (cnv_Node x) 10 = (gl x 10).map cnv_int from rfl, sumL_map (h := cnv_Item) cnv_Item_c (gl x 3), sumL_map (h := cnv_bool) cnv_bool_c (gl x 8), sumL_map (h := cnv_int) cnv_int_c (gl x 9), sumL_map (h := cnv_int) cnv_int_c (gl x 10)]
theorem cnv_Node_ct (x : V) : ct_Node (cnv_Node x) = ct_Node x := by
  simp only [ct_Node, show gl (cnv_Node x) 3 = (gl x 3).map cnv_Item from rfl, show gl (cnv_Node x) 8 = (gl x 8).map cnv_bool from rfl, show gl (cnv_Node x) 9 = (gl x 9).map cnv_int from rfl, show gl (cnv_Node x) 10 = (gl x 10).map cnv_int from rfl, sumL_map (h := cnv_Item) cnv_Item_c (gl x 3), sumL_map (h := cnv_bool) cnv_bool_c (gl x 8), sumL_map (h := cnv_int) cnv_int_c (gl x 9), sumL_map (h := cnv_int) cnv_int_c (gl x 10)]
theorem c_Node_cz (x : V) : c_Node x ≤ 7 * (1 + z_Node x) := by
  have h0 : sumL c_Item (gl x 3) ≤ 5 * zS z_Item (gl x 3) := sumL_mul 5 fun y _ => c_Item_cz y
  have h1 : sumL c1 (gl x 8) ≤ 1 * zS z0 (gl x 8) := by rw [sumL_c1, zS_z0]; omega
  have h2 : sumL c1 (gl x 9) ≤ 1 * zS z0 (gl x 9) := by rw [sumL_c1, zS_z0]; omega
  have h3 : sumL c1 (gl x 10) ≤ 1 * zS z0 (gl x 10) := by rw [sumL_c1, zS_z0]; omega
  simp only [c_Node, z_Node]; omega
theorem ct_Node_cz (x : V) : ct_Node x ≤ 7 * z_Node x := by
  have h0 : sumL c_Item (gl x 3) ≤ 5 * zS z_Item (gl x 3) := sumL_mul 5 fun y _ => c_Item_cz y
  have h1 : sumL c1 (gl x 8) ≤ 1 * zS z0 (gl x 8) := by rw [sumL_c1, zS_z0]; omega
  have h2 : sumL c1 (gl x 9) ≤ 1 * zS z0 (gl x 9) := by rw [sumL_c1, zS_z0]; omega
  have h3 : sumL c1 (gl x 10) ≤ 1 * zS z0 (gl x 10) := by rw [sumL_c1, zS_z0]; omega
  simp only [ct_Node, z_Node]; omega
def W_Msg (x : V) : Prop := I64 (gi x 0) ∧ I64 (gi x 1) ∧ I64 (gi x 2) ∧ I64 (gi x 3) ∧ I64 (gi x 4) ∧ I64 (gi x 5) ∧ LW W_Item (gl x 6) ∧ I64 (gi x 7) ∧ True
def z_Msg (x : V) : Nat := zS z_Item (gl x 6)
def c_Msg (x : V) : Nat := 1 + 1 + 1 + 1 + 1 + 1 + sumL c_Item (gl x 6) + 1 + 1
def ct_Msg (x : V) : Nat := sumL c_Item (gl x 6)
def M_Msg (x : V) (k : Int) : Prop := gi x 0 = k ∧ gi x 1 = k + 1 ∧ gi x 2 = k + 1 + 1 ∧ gi x 3 = k + 1 + 1 + 1 ∧ gi x 4 = k + 1 + 1 + 1 + 1 ∧ gi x 5 = k + 1 + 1 + 1 + 1 + 1 ∧ MS c_Item M_Item (gl x 6) (k + 1 + 1 + 1 + 1 + 1 + 1) ∧ gi x 7 = k + 1 + 1 + 1 + 1 + 1 + 1 + ((sumL c_Item (gl x 6) : Nat) : Int) ∧ gb x 8 = decide ((k + 1 + 1 + 1 + 1 + 1 + 1 + ((sumL c_Item (gl x 6) : Nat) : Int) + 1).tmod 3 = 0)
def cnv_Msg (x : V) : V := V.agg [(V.int .i64 (gi x 0)), (V.int .i64 (gi x 1)), (V.int .i64 (gi x 2)), (V.int .i64 (gi x 3)), (V.int .i64 (gi x 4)), (V.int .i64 (gi x 5)), V.inl t_impl_Item ((gl x 6).map cnv_Item), (V.int .i64 (gi x 7)), (V.bool (gb x 8))]
theorem cnv_Msg_W (x : V) (h : W_Msg x) : W_Msg (cnv_Msg x) := ⟨h.1, h.2.1, h.2.2.1, h.2.2.2.1, h.2.2.2.2.1, h.2.2.2.2.2.1, LW.map (h := cnv_Item) cnv_Item_W (h.2.2.2.2.2.2.1), h.2.2.2.2.2.2.2.1, h.2.2.2.2.2.2.2.2⟩
theorem cnv_Msg_z (x : V) : z_Msg (cnv_Msg x) = z_Msg x := by
  simp only [z_Msg, show gl (cnv_Msg x) 6 = (gl x 6).map cnv_Item from rfl, zS_map (h := cnv_Item) cnv_Item_z (gl x 6)]
theorem cnv_Msg_c (x : V) : c_Msg (cnv_Msg x) = c_Msg x := by
  simp only [c_Msg, show gl (cnv_Msg x) 6 = (gl x 6).map cnv_Item from rfl, sumL_map (h := cnv_Item) cnv_Item_c (gl x 6)]
theorem cnv_Msg_ct (x : V) : ct_Msg (cnv_Msg x) = ct_Msg x := by
  simp only [ct_Msg, show gl (cnv_Msg x) 6 = (gl x 6).map cnv_Item from rfl, sumL_map (h := cnv_Item) cnv_Item_c (gl x 6)]
theorem c_Msg_cz (x : V) : c_Msg x ≤ 8 * (1 + z_Msg x) := by
  have h0 : sumL c_Item (gl x 6) ≤ 5 * zS z_Item (gl x 6) := sumL_mul 5 fun y _ => c_Item_cz y
  simp only [c_Msg, z_Msg]; omega
theorem ct_Msg_cz (x : V) : ct_Msg x ≤ 8 * z_Msg x := by
  have h0 : sumL c_Item (gl x 6) ≤ 5 * zS z_Item (gl x 6) := sumL_mul 5 fun y _ => c_Item_cz y
  simp only [ct_Msg, z_Msg]; omega
def W_Prober (x : V) : Prop := LW W_int (gl x 0) ∧ I64 (gi x 1) ∧ I64 (gi x 2) ∧ I64 (gi x 3) ∧ I64 (gi x 4) ∧ I64 (gi x 5)
def z_Prober (x : V) : Nat := zS z0 (gl x 0)
def c_Prober (x : V) : Nat := sumL c1 (gl x 0) + 1 + 1 + 1 + 1 + 1
def ct_Prober (x : V) : Nat := sumL c1 (gl x 0)
def M_Prober (x : V) (k : Int) : Prop := MS c1 M_int (gl x 0) (k) ∧ gi x 1 = k + ((sumL c1 (gl x 0) : Nat) : Int) ∧ gi x 2 = k + ((sumL c1 (gl x 0) : Nat) : Int) + 1 ∧ gi x 3 = k + ((sumL c1 (gl x 0) : Nat) : Int) + 1 + 1 ∧ gi x 4 = k + ((sumL c1 (gl x 0) : Nat) : Int) + 1 + 1 + 1 ∧ gi x 5 = k + ((sumL c1 (gl x 0) : Nat) : Int) + 1 + 1 + 1 + 1
def cnv_Prober (x : V) : V := V.agg [V.inl t_int' ((gl x 0).map cnv_int), (V.int .i64 (gi x 1)), (V.int .i64 (gi x 2)), (V.int .i64 (gi x 3)), (V.int .i64 (gi x 4)), (V.int .i64 (gi x 5))]
theorem cnv_Prober_W (x : V) (h : W_Prober x) : W_Prober (cnv_Prober x) := ⟨LW.map (h := cnv_int) cnv_int_W (h.1), h.2.1, h.2.2.1, h.2.2.2.1, h.2.2.2.2.1, h.2.2.2.2.2⟩
theorem cnv_Prober_z (x : V) : z_Prober (cnv_Prober x) = z_Prober x := by
  simp only [z_Prober, show gl (cnv_Prober x) 0 = (gl x 0).map cnv_int from rfl, zS_map (h := cnv_int) cnv_int_z (gl x 0)]
theorem cnv_Prober_c (x : V) : c_Prober (cnv_Prober x) = c_Prober x := by
  simp only [c_Prober, show gl (cnv_Prober x) 0 = (gl x 0).map cnv_int from rfl, sumL_map (h := cnv_int) cnv_int_c (gl x 0)]
theorem cnv_Prober_ct (x : V) : ct_Prober (cnv_Prober x) = ct_Prober x := by
  simp only [ct_Prober, show gl (cnv_Prober x) 0 = (gl x 0).map cnv_int from rfl, sumL_map (h := cnv_int) cnv_int_c (gl x 0)]
theorem c_Prober_cz (x : V) : c_Prober x ≤ 5 * (1 + z_Prober x) := by
  have h0 : sumL c1 (gl x 0) ≤ 1 * zS z0 (gl x 0) := by rw [sumL_c1, zS_z0]; omega
  simp only [c_Prober, z_Prober]; omega
theorem ct_Prober_cz (x : V) : ct_Prober x ≤ 5 * z_Prober x := by
  have h0 : sumL c1 (gl x 0) ≤ 1 * zS z0 (gl x 0) := by rw [sumL_c1, zS_z0]; omega
  simp only [ct_Prober, z_Prober]; omega
def W_Op (x : V) : Prop := I64 (gi x 0) ∧ LW W_byte (gl x 1) ∧ LW W_byte (gl x 2) ∧ I64 (gi x 3)
def z_Op (x : V) : Nat := zS z0 (gl x 1) + zS z0 (gl x 2)
def c_Op (x : V) : Nat := 1 + sumL c1 (gl x 1) + sumL c1 (gl x 2) + 1
def ct_Op (x : V) : Nat := sumL c1 (gl x 1) + sumL c1 (gl x 2)
def M_Op (x : V) (k : Int) : Prop := gi x 0 = k ∧ MS c1 M_byte (gl x 1) (k + 1) ∧ MS c1 M_byte (gl x 2) (k + 1 + ((sumL c1 (gl x 1) : Nat) : Int)) ∧ gi x 3 = k + 1 + ((sumL c1 (gl x 1) : Nat) : Int) + ((sumL c1 (gl x 2) : Nat) : Int)
def cnv_Op (x : V) : V := V.agg [(V.int .i64 (gi x 0)), V.inl t_byte ((gl x 1).map cnv_byte), V.inl t_byte ((gl x 2).map cnv_byte), (V.int .i64 (gi x 3))]
theorem cnv_Op_W (x : V) (h : W_Op x) : W_Op (cnv_Op x) := ⟨h.1, LW.map (h := cnv_byte) cnv_byte_W (h.2.1), LW.map (h := cnv_byte) cnv_byte_W (h.2.2.1), h.2.2.2⟩
theorem cnv_Op_z (x : V) : z_Op (cnv_Op x) = z_Op x := by
  simp only [z_Op, show gl (cnv_Op x) 1 = (gl x 1).map cnv_byte from rfl, show gl (cnv_Op x) 2 = (gl x 2).map cnv_byte from rfl, zS_map (h := cnv_byte) cnv_byte_z (gl x 1), zS_map (h := cnv_byte) cnv_byte_z (gl x 2)]
theorem cnv_Op_c (x : V) : c_Op (cnv_Op x) = c_Op x := by
  simp only [c_Op, show gl (cnv_Op x) 1 = (gl x 1).map cnv_byte from rfl, show gl (cnv_Op x) 2 = (gl x 2).map cnv_byte from rfl, sumL_map (h := cnv_byte) cnv_byte_c (gl x 1), sumL_map (h := cnv_byte) cnv_byte_c (gl x 2)]
theorem cnv_Op_ct (x : V) : ct_Op (cnv_Op x) = ct_Op x := by
  simp only [ct_Op, show gl (cnv_Op x) 1 = (gl x 1).map cnv_byte from rfl, show gl (cnv_Op x) 2 = (gl x 2).map cnv_byte from rfl, sumL_map (h := cnv_byte) cnv_byte_c (gl x 1), sumL_map (h := cnv_byte) cnv_byte_c (gl x 2)]
theorem c_Op_cz (x : V) : c_Op x ≤ 2 * (1 + z_Op x) := by
  have h0 : sumL c1 (gl x 1) ≤ 1 * zS z0 (gl x 1) := by rw [sumL_c1, zS_z0]; omega
  have h1 : sumL c1 (gl x 2) ≤ 1 * zS z0 (gl x 2) := by rw [sumL_c1, zS_z0]; omega
  simp only [c_Op, z_Op]; omega
theorem ct_Op_cz (x : V) : ct_Op x ≤ 2 * z_Op x := by
  have h0 : sumL c1 (gl x 1) ≤ 1 * zS z0 (gl x 1) := by rw [sumL_c1, zS_z0]; omega
  have h1 : sumL c1 (gl x 2) ≤ 1 * zS z0 (gl x 2) := by rw [sumL_c1, zS_z0]; omega
  simp only [ct_Op, z_Op]; omega
def W_Action (x : V) : Prop := I64 (gi x 0) ∧ I64 (gi x 1) ∧ I64 (gi x 2) ∧ I64 (gi x 3) ∧ LW W_byte (gl x 4) ∧ LW W_byte (gl x 5) ∧ I64 (gi x 6) ∧ LW W_byte (gl x 7)
def z_Action (x : V) : Nat := zS z0 (gl x 4) + zS z0 (gl x 5) + zS z0 (gl x 7)
def c_Action (x : V) : Nat := 1 + 1 + 1 + 1 + sumL c1 (gl x 4) + sumL c1 (gl x 5) + 1 + sumL c1 (gl x 7)
def ct_Action (x : V) : Nat := sumL c1 (gl x 4) + sumL c1 (gl x 5) + sumL c1 (gl x 7)
def M_Action (x : V) (k : Int) : Prop := gi x 0 = k ∧ gi x 1 = k + 1 ∧ gi x 2 = k + 1 + 1 ∧ gi x 3 = k + 1 + 1 + 1 ∧ MS c1 M_byte (gl x 4) (k + 1 + 1 + 1 + 1) ∧ MS c1 M_byte (gl x 5) (k + 1 + 1 + 1 + 1 + ((sumL c1 (gl x 4) : Nat) : Int)) ∧ gi x 6 = k + 1 + 1 + 1 + 1 + ((sumL c1 (gl x 4) : Nat) : Int) + ((sumL c1 (gl x 5) : Nat) : Int) ∧ MS c1 M_byte (gl x 7) (k + 1 + 1 + 1 + 1 + ((sumL c1 (gl x 4) : Nat) : Int) + ((sumL c1 (gl x 5) : Nat) : Int) + 1)
def cnv_Action (x : V) : V := V.agg [(V.int .i64 (gi x 0)), (V.int .i64 (gi x 1)), (V.int .i64 (gi x 2)), (V.int .i64 (gi x 3)), V.inl t_byte ((gl x 4).map cnv_byte), V.inl t_byte ((gl x 5).map cnv_byte), (V.int .i64 (gi x 6)), V.inl t_byte ((gl x 7).map cnv_byte)]
theorem cnv_Action_W (x : V) (h : W_Action x) : W_Action (cnv_Action x) := ⟨h.1, h.2.1, h.2.2.1, h.2.2.2.1, LW.map (h := cnv_byte) cnv_byte_W (h.2.2.2.2.1), LW.map (h := cnv_byte) cnv_byte_W (h.2.2.2.2.2.1), h.2.2.2.2.2.2.1, LW.map (h := cnv_byte) cnv_byte_W (h.2.2.2.2.2.2.2)⟩
theorem cnv_Action_z (x : V) : z_Action (cnv_Action x) = z_Action x := by
  simp only [z_Action, show gl (cnv_Action x) 4 = (gl x 4).map cnv_byte from rfl, show gl (cnv_Action x) 5 = (gl x 5).map cnv_byte from rfl, show gl (cnv_Action x) 7 = (gl x 7).map cnv_byte from rfl, zS_map (h := cnv_byte) cnv_byte_z (gl x 4), zS_map (h := cnv_byte) cnv_byte_z (gl x 5), zS_map (h := cnv_byte) cnv_byte_z (gl x 7)]
theorem cnv_Action_c (x : V) : c_Action (cnv_Action x) = c_Action x := by
  simp only [c_Action, show gl (cnv_Action x) 4 = (gl x 4).map cnv_byte from rfl, show gl (cnv_Action x) 5 = (gl x 5).map cnv_byte from rfl, show gl (cnv_Action x) 7 = (gl x 7).map cnv_byte from rfl, sumL_map (h := cnv_byte) cnv_byte_c (gl x 4), sumL_map (h := cnv_byte) cnv_byte_c (gl x 5), sumL_map (h := cnv_byte) cnv_byte_c (gl x 7)]
theorem cnv_Action_ct (x : V) : ct_Action (cnv_Action x) = ct_Action x := by
  simp only [ct_Action, show gl (cnv_Action x) 4 = (gl x 4).map cnv_byte from rfl, show gl (cnv_Action x) 5 = (gl x 5).map cnv_byte from rfl, show gl (cnv_Action x) 7 = (gl x 7).map cnv_byte from rfl, sumL_map (h := cnv_byte) cnv_byte_c (gl x 4), sumL_map (h := cnv_byte) cnv_byte_c (gl x 5), sumL_map (h := cnv_byte) cnv_byte_c (gl x 7)]
theorem c_Action_cz (x : V) : c_Action x ≤ 5 * (1 + z_Action x) := by
  have h0 : sumL c1 (gl x 4) ≤ 1 * zS z0 (gl x 4) := by rw [sumL_c1, zS_z0]; omega
  have h1 : sumL c1 (gl x 5) ≤ 1 * zS z0 (gl x 5) := by rw [sumL_c1, zS_z0]; omega
  have h2 : sumL c1 (gl x 7) ≤ 1 * zS z0 (gl x 7) := by rw [sumL_c1, zS_z0]; omega
  simp only [c_Action, z_Action]; omega
theorem ct_Action_cz (x : V) : ct_Action x ≤ 5 * z_Action x := by
  have h0 : sumL c1 (gl x 4) ≤ 1 * zS z0 (gl x 4) := by rw [sumL_c1, zS_z0]; omega
  have h1 : sumL c1 (gl x 5) ≤ 1 * zS z0 (gl x 5) := by rw [sumL_c1, zS_z0]; omega
  have h2 : sumL c1 (gl x 7) ≤ 1 * zS z0 (gl x 7) := by rw [sumL_c1, zS_z0]; omega
  simp only [ct_Action, z_Action]; omega
def W_Fact (x : V) : Prop := I64 (gi x 0) ∧ I64 (gi x 1) ∧ I64 (gi x 2) ∧ I64 (gi x 3) ∧ LW W_byte (gl x 4) ∧ LW W_byte (gl x 5) ∧ I64 (gi x 6)
def z_Fact (x : V) : Nat := zS z0 (gl x 4) + zS z0 (gl x 5)
def c_Fact (x : V) : Nat := 1 + 1 + 1 + 1 + sumL c1 (gl x 4) + sumL c1 (gl x 5) + 1
def ct_Fact (x : V) : Nat := sumL c1 (gl x 4) + sumL c1 (gl x 5)
def M_Fact (x : V) (k : Int) : Prop := gi x 0 = k ∧ gi x 1 = k + 1 ∧ gi x 2 = k + 1 + 1 ∧ gi x 3 = k + 1 + 1 + 1 ∧ MS c1 M_byte (gl x 4) (k + 1 + 1 + 1 + 1) ∧ MS c1 M_byte (gl x 5) (k + 1 + 1 + 1 + 1 + ((sumL c1 (gl x 4) : Nat) : Int)) ∧ gi x 6 = k + 1 + 1 + 1 + 1 + ((sumL c1 (gl x 4) : Nat) : Int) + ((sumL c1 (gl x 5) : Nat) : Int)
def cnv_Fact (x : V) : V := V.agg [(V.int .i64 (gi x 0)), (V.int .i64 (gi x 1)), (V.int .i64 (gi x 2)), (V.int .i64 (gi x 3)), V.inl t_byte ((gl x 4).map cnv_byte), V.inl t_byte ((gl x 5).map cnv_byte), (V.int .i64 (gi x 6))]
theorem cnv_Fact_W (x : V) (h : W_Fact x) : W_Fact (cnv_Fact x) := ⟨h.1, h.2.1, h.2.2.1, h.2.2.2.1, LW.map (h := cnv_byte) cnv_byte_W (h.2.2.2.2.1), LW.map (h := cnv_byte) cnv_byte_W (h.2.2.2.2.2.1), h.2.2.2.2.2.2⟩
theorem cnv_Fact_z (x : V) : z_Fact (cnv_Fact x) = z_Fact x := by
  simp only [z_Fact, show gl (cnv_Fact x) 4 = (gl x 4).map cnv_byte from rfl, show gl (cnv_Fact x) 5 = (gl x 5).map cnv_byte from rfl, zS_map (h := cnv_byte) cnv_byte_z (gl x 4), zS_map (h := cnv_byte) cnv_byte_z (gl x 5)]
theorem cnv_Fact_c (x : V) : c_Fact (cnv_Fact x) = c_Fact x := by
  simp only [c_Fact, show gl (cnv_Fact x) 4 = (gl x 4).map cnv_byte from rfl, show gl (cnv_Fact x) 5 = (gl x 5).map cnv_byte from rfl, sumL_map (h := cnv_byte) cnv_byte_c (gl x 4), sumL_map (h := cnv_byte) cnv_byte_c (gl x 5)]
theorem cnv_Fact_ct (x : V) : ct_Fact (cnv_Fact x) = ct_Fact x := by
  simp only [ct_Fact, show gl (cnv_Fact x) 4 = (gl x 4).map cnv_byte from rfl, show gl (cnv_Fact x) 5 = (gl x 5).map cnv_byte from rfl, sumL_map (h := cnv_byte) cnv_byte_c (gl x 4), sumL_map (h := cnv_byte) cnv_byte_c (gl x 5)]
theorem c_Fact_cz (x : V) : c_Fact x ≤ 5 * (1 + z_Fact x) := by
  have h0 : sumL c1 (gl x 4) ≤ 1 * zS z0 (gl x 4) := by rw [sumL_c1, zS_z0]; omega
  have h1 : sumL c1 (gl x 5) ≤ 1 * zS z0 (gl x 5) := by rw [sumL_c1, zS_z0]; omega
  simp only [c_Fact, z_Fact]; omega
theorem ct_Fact_cz (x : V) : ct_Fact x ≤ 5 * z_Fact x := by
  have h0 : sumL c1 (gl x 4) ≤ 1 * zS z0 (gl x 4) := by rw [sumL_c1, zS_z0]; omega
  have h1 : sumL c1 (gl x 5) ≤ 1 * zS z0 (gl x 5) := by rw [sumL_c1, zS_z0]; omega
  simp only [ct_Fact, z_Fact]; omega
def W_Call (x : V) : Prop := I64 (gi x 0) ∧ I64 (gi x 1) ∧ I64 (gi x 2) ∧ LW W_byte (gl x 3) ∧ LW W_byte (gl x 4) ∧ I64 (gi x 5) ∧ I64 (gi x 6) ∧ I64 (gi x 7) ∧ I64 (gi x 8) ∧ I64 (gi x 9)
def z_Call (x : V) : Nat := zS z0 (gl x 3) + zS z0 (gl x 4)
def c_Call (x : V) : Nat := 1 + 1 + 1 + sumL c1 (gl x 3) + sumL c1 (gl x 4) + 1 + 1 + 1 + 1 + 1
def ct_Call (x : V) : Nat := sumL c1 (gl x 3) + sumL c1 (gl x 4)
def M_Call (x : V) (k : Int) : Prop := gi x 0 = k ∧ gi x 1 = k + 1 ∧ gi x 2 = k + 1 + 1 ∧ MS c1 M_byte (gl x 3) (k + 1 + 1 + 1) ∧ MS c1 M_byte (gl x 4) (k + 1 + 1 + 1 + ((sumL c1 (gl x 3) : Nat) : Int)) ∧ gi x 5 = k + 1 + 1 + 1 + ((sumL c1 (gl x 3) : Nat) : Int) + ((sumL c1 (gl x 4) : Nat) : Int) ∧ gi x 6 = k + 1 + 1 + 1 + ((sumL c1 (gl x 3) : Nat) : Int) + ((sumL c1 (gl x 4) : Nat) : Int) + 1 ∧ gi x 7 = k + 1 + 1 + 1 + ((sumL c1 (gl x 3) : Nat) : Int) + ((sumL c1 (gl x 4) : Nat) : Int) + 1 + 1 ∧ gi x 8 = k + 1 + 1 + 1 + ((sumL c1 (gl x 3) : Nat) : Int) + ((sumL c1 (gl x 4) : Nat) : Int) + 1 + 1 + 1 ∧ gi x 9 = k + 1 + 1 + 1 + ((sumL c1 (gl x 3) : Nat) : Int) + ((sumL c1 (gl x 4) : Nat) : Int) + 1 + 1 + 1 + 1
def cnv_Call (x : V) : V := V.agg [(V.int .i64 (gi x 0)), (V.int .i64 (gi x 1)), (V.int .i64 (gi x 2)), V.inl t_byte ((gl x 3).map cnv_byte), V.inl t_byte ((gl x 4).map cnv_byte), (V.int .i64 (gi x 5)), (V.int .i64 (gi x 6)), (V.int .i64 (gi x 7)), (V.int .i64 (gi x 8)), (V.int .i64 (gi x 9))]
theorem cnv_Call_W (x : V) (h : W_Call x) : W_Call (cnv_Call x) := ⟨h.1, h.2.1, h.2.2.1, LW.map (h := cnv_byte) cnv_byte_W (h.2.2.2.1), LW.map (h := cnv_byte) cnv_byte_W (h.2.2.2.2.1), h.2.2.2.2.2.1, h.2.2.2.2.2.2.1, h.2.2.2.2.2.2.2.1, h.2.2.2.2.2.2.2.2.1, h.2.2.2.2.2.2.2.2.2⟩
theorem cnv_Call_z (x : V) : z_Call (cnv_Call x) = z_Call x := by
  simp only [z_Call, show gl (cnv_Call x) 3 = (gl x 3).map cnv_byte from rfl, show gl (cnv_Call x) 4 = (gl x 4).map cnv_byte from rfl, zS_map (h := cnv_byte) cnv_byte_z (gl x 3), zS_map (h := cnv_byte) cnv_byte_z (gl x 4)]
theorem cnv_Call_c (x : V) : c_Call (cnv_Call x) = c_Call x := by
  simp only [c_Call, show gl (cnv_Call x) 3 = (gl x 3).map cnv_byte from rfl, show gl (cnv_Call x) 4 = (gl x 4).map cnv_byte from rfl, sumL_map (h := cnv_byte) cnv_byte_c (gl x 3), sumL_map (h := cnv_byte) cnv_byte_c (gl x 4)]
theorem cnv_Call_ct (x : V) : ct_Call (cnv_Call x) = ct_Call x := by
  simp only [ct_Call, show gl (cnv_Call x) 3 = (gl x 3).map cnv_byte from rfl, show gl (cnv_Call x) 4 = (gl x 4).map cnv_byte from rfl, sumL_map (h := cnv_byte) cnv_byte_c (gl x 3), sumL_map (h := cnv_byte) cnv_byte_c (gl x 4)]
theorem c_Call_cz (x : V) : c_Call x ≤ 8 * (1 + z_Call x) := by
  have h0 : sumL c1 (gl x 3) ≤ 1 * zS z0 (gl x 3) := by rw [sumL_c1, zS_z0]; omega
  have h1 : sumL c1 (gl x 4) ≤ 1 * zS z0 (gl x 4) := by rw [sumL_c1, zS_z0]; omega
  simp only [c_Call, z_Call]; omega
theorem ct_Call_cz (x : V) : ct_Call x ≤ 8 * z_Call x := by
  have h0 : sumL c1 (gl x 3) ≤ 1 * zS z0 (gl x 3) := by rw [sumL_c1, zS_z0]; omega
  have h1 : sumL c1 (gl x 4) ≤ 1 * zS z0 (gl x 4) := by rw [sumL_c1, zS_z0]; omega
  simp only [ct_Call, z_Call]; omega
def W_Note (x : V) : Prop := I64 (gi x 0) ∧ I64 (gi x 1) ∧ LW W_byte (gl x 2) ∧ I64 (gi x 3) ∧ I64 (gi x 4) ∧ I64 (gi x 5) ∧ True ∧ LW W_byte (gl x 7)
def z_Note (x : V) : Nat := zS z0 (gl x 2) + zS z0 (gl x 7)
def c_Note (x : V) : Nat := 1 + 1 + sumL c1 (gl x 2) + 1 + 1 + 1 + 1 + sumL c1 (gl x 7)
def ct_Note (x : V) : Nat := sumL c1 (gl x 2) + sumL c1 (gl x 7)
def M_Note (x : V) (k : Int) : Prop := gi x 0 = k ∧ gi x 1 = k + 1 ∧ MS c1 M_byte (gl x 2) (k + 1 + 1) ∧ gi x 3 = k + 1 + 1 + ((sumL c1 (gl x 2) : Nat) : Int) ∧ gi x 4 = k + 1 + 1 + ((sumL c1 (gl x 2) : Nat) : Int) + 1 ∧ gi x 5 = k + 1 + 1 + ((sumL c1 (gl x 2) : Nat) : Int) + 1 + 1 ∧ gb x 6 = decide ((k + 1 + 1 + ((sumL c1 (gl x 2) : Nat) : Int) + 1 + 1 + 1).tmod 3 = 0) ∧ MS c1 M_byte (gl x 7) (k + 1 + 1 + ((sumL c1 (gl x 2) : Nat) : Int) + 1 + 1 + 1 + 1)
def cnv_Note (x : V) : V := V.agg [(V.int .i64 (gi x 0)), (V.int .i64 (gi x 1)), V.inl t_byte ((gl x 2).map cnv_byte), (V.int .i64 (gi x 3)), (V.int .i64 (gi x 4)), (V.int .i64 (gi x 5)), (V.bool (gb x 6)), V.inl t_byte ((gl x 7).map cnv_byte)]
theorem cnv_Note_W (x : V) (h : W_Note x) : W_Note (cnv_Note x) := ⟨h.1, h.2.1, LW.map (h := cnv_byte) cnv_byte_W (h.2.2.1), h.2.2.2.1, h.2.2.2.2.1, h.2.2.2.2.2.1, h.2.2.2.2.2.2.1, LW.map (h := cnv_byte) cnv_byte_W (h.2.2.2.2.2.2.2)⟩
theorem cnv_Note_z (x : V) : z_Note (cnv_Note x) = z_Note x := by
  simp only [z_Note, show gl (cnv_Note x) 2 = (gl x 2).map cnv_byte from rfl, show gl (cnv_Note x) 7 = (gl x 7).map cnv_byte from rfl, zS_map (h := cnv_byte) cnv_byte_z (gl x 2), zS_map (h := cnv_byte) cnv_byte_z (gl x 7)]
theorem cnv_Note_c (x : V) : c_Note (cnv_Note x) = c_Note x := by
  simp only [c_Note, show gl (cnv_Note x) 2 = (gl x 2).map cnv_byte from rfl, show gl (cnv_Note x) 7 = (gl x 7).map cnv_byte from rfl, sumL_map (h := cnv_byte) cnv_byte_c (gl x 2), sumL_map (h := cnv_byte) cnv_byte_c (gl x 7)]
theorem cnv_Note_ct (x : V) : ct_Note (cnv_Note x) = ct_Note x := by
  simp only [ct_Note, show gl (cnv_Note x) 2 = (gl x 2).map cnv_byte from rfl, show gl (cnv_Note x) 7 = (gl x 7).map cnv_byte from rfl, sumL_map (h := cnv_byte) cnv_byte_c (gl x 2), sumL_map (h := cnv_byte) cnv_byte_c (gl x 7)]
theorem c_Note_cz (x : V) : c_Note x ≤ 6 * (1 + z_Note x) := by
  have h0 : sumL c1 (gl x 2) ≤ 1 * zS z0 (gl x 2) := by rw [sumL_c1, zS_z0]; omega
  have h1 : sumL c1 (gl x 7) ≤ 1 * zS z0 (gl x 7) := by rw [sumL_c1, zS_z0]; omega
  simp only [c_Note, z_Note]; omega
theorem ct_Note_cz (x : V) : ct_Note x ≤ 6 * z_Note x := by
  have h0 : sumL c1 (gl x 2) ≤ 1 * zS z0 (gl x 2) := by rw [sumL_c1, zS_z0]; omega
  have h1 : sumL c1 (gl x 7) ≤ 1 * zS z0 (gl x 7) := by rw [sumL_c1, zS_z0]; omega
  simp only [ct_Note, z_Note]; omega
def W_Row (x : V) : Prop := LW W_byte (gl x 0) ∧ LW W_byte (gl x 1) ∧ I64 (gi x 2) ∧ I64 (gi x 3)
def z_Row (x : V) : Nat := zS z0 (gl x 0) + zS z0 (gl x 1)
def c_Row (x : V) : Nat := sumL c1 (gl x 0) + sumL c1 (gl x 1) + 1 + 1
def ct_Row (x : V) : Nat := sumL c1 (gl x 0) + sumL c1 (gl x 1)
def M_Row (x : V) (k : Int) : Prop := MS c1 M_byte (gl x 0) (k) ∧ MS c1 M_byte (gl x 1) (k + ((sumL c1 (gl x 0) : Nat) : Int)) ∧ gi x 2 = k + ((sumL c1 (gl x 0) : Nat) : Int) + ((sumL c1 (gl x 1) : Nat) : Int) ∧ gi x 3 = k + ((sumL c1 (gl x 0) : Nat) : Int) + ((sumL c1 (gl x 1) : Nat) : Int) + 1
def cnv_Row (x : V) : V := V.agg [V.inl t_byte ((gl x 0).map cnv_byte), V.inl t_byte ((gl x 1).map cnv_byte), (V.int .i64 (gi x 2)), (V.int .i64 (gi x 3))]
theorem cnv_Row_W (x : V) (h : W_Row x) : W_Row (cnv_Row x) := ⟨LW.map (h := cnv_byte) cnv_byte_W (h.1), LW.map (h := cnv_byte) cnv_byte_W (h.2.1), h.2.2.1, h.2.2.2⟩
theorem cnv_Row_z (x : V) : z_Row (cnv_Row x) = z_Row x := by
  simp only [z_Row, show gl (cnv_Row x) 0 = (gl x 0).map cnv_byte from rfl, show gl (cnv_Row x) 1 = (gl x 1).map cnv_byte from rfl, zS_map (h := cnv_byte) cnv_byte_z (gl x 0), zS_map (h := cnv_byte) cnv_byte_z (gl x 1)]
theorem cnv_Row_c (x : V) : c_Row (cnv_Row x) = c_Row x := by
  simp only [c_Row, show gl (cnv_Row x) 0 = (gl x 0).map cnv_byte from rfl, show gl (cnv_Row x) 1 = (gl x 1).map cnv_byte from rfl, sumL_map (h := cnv_byte) cnv_byte_c (gl x 0), sumL_map (h := cnv_byte) cnv_byte_c (gl x 1)]
theorem cnv_Row_ct (x : V) : ct_Row (cnv_Row x) = ct_Row x := by
  simp only [ct_Row, show gl (cnv_Row x) 0 = (gl x 0).map cnv_byte from rfl, show gl (cnv_Row x) 1 = (gl x 1).map cnv_byte from rfl, sumL_map (h := cnv_byte) cnv_byte_c (gl x 0), sumL_map (h := cnv_byte) cnv_byte_c (gl x 1)]
theorem c_Row_cz (x : V) : c_Row x ≤ 2 * (1 + z_Row x) := by
  have h0 : sumL c1 (gl x 0) ≤ 1 * zS z0 (gl x 0) := by rw [sumL_c1, zS_z0]; omega
  have h1 : sumL c1 (gl x 1) ≤ 1 * zS z0 (gl x 1) := by rw [sumL_c1, zS_z0]; omega
  simp only [c_Row, z_Row]; omega
theorem ct_Row_cz (x : V) : ct_Row x ≤ 2 * z_Row x := by
  have h0 : sumL c1 (gl x 0) ≤ 1 * zS z0 (gl x 0) := by rw [sumL_c1, zS_z0]; omega
  have h1 : sumL c1 (gl x 1) ≤ 1 * zS z0 (gl x 1) := by rw [sumL_c1, zS_z0]; omega
  simp only [ct_Row, z_Row]; omega
def W_Tomb (x : V) : Prop := LW W_byte (gl x 0) ∧ I64 (gi x 1)
def z_Tomb (x : V) : Nat := zS z0 (gl x 0)
def c_Tomb (x : V) : Nat := sumL c1 (gl x 0) + 1
def ct_Tomb (x : V) : Nat := sumL c1 (gl x 0)
def M_Tomb (x : V) (k : Int) : Prop := MS c1 M_byte (gl x 0) (k) ∧ gi x 1 = k + ((sumL c1 (gl x 0) : Nat) : Int)
def cnv_Tomb (x : V) : V := V.agg [V.inl t_byte ((gl x 0).map cnv_byte), (V.int .i64 (gi x 1))]
theorem cnv_Tomb_W (x : V) (h : W_Tomb x) : W_Tomb (cnv_Tomb x) := ⟨LW.map (h := cnv_byte) cnv_byte_W (h.1), h.2⟩
theorem cnv_Tomb_z (x : V) : z_Tomb (cnv_Tomb x) = z_Tomb x := by
  simp only [z_Tomb, show gl (cnv_Tomb x) 0 = (gl x 0).map cnv_byte from rfl, zS_map (h := cnv_byte) cnv_byte_z (gl x 0)]
theorem cnv_Tomb_c (x : V) : c_Tomb (cnv_Tomb x) = c_Tomb x := by
  simp only [c_Tomb, show gl (cnv_Tomb x) 0 = (gl x 0).map cnv_byte from rfl, sumL_map (h := cnv_byte) cnv_byte_c (gl x 0)]
theorem cnv_Tomb_ct (x : V) : ct_Tomb (cnv_Tomb x) = ct_Tomb x := by
  simp only [ct_Tomb, show gl (cnv_Tomb x) 0 = (gl x 0).map cnv_byte from rfl, sumL_map (h := cnv_byte) cnv_byte_c (gl x 0)]
theorem c_Tomb_cz (x : V) : c_Tomb x ≤ 1 * (1 + z_Tomb x) := by
  have h0 : sumL c1 (gl x 0) ≤ 1 * zS z0 (gl x 0) := by rw [sumL_c1, zS_z0]; omega
  simp only [c_Tomb, z_Tomb]; omega
theorem ct_Tomb_cz (x : V) : ct_Tomb x ≤ 1 * z_Tomb x := by
  have h0 : sumL c1 (gl x 0) ≤ 1 * zS z0 (gl x 0) := by rw [sumL_c1, zS_z0]; omega
  simp only [ct_Tomb, z_Tomb]; omega
def W_Session (x : V) : Prop := I64 (gi x 0) ∧ True
def z_Session (x : V) : Nat := 0
def c_Session (x : V) : Nat := 1 + 1
def ct_Session (x : V) : Nat := 0
def M_Session (x : V) (k : Int) : Prop := gi x 0 = k ∧ gb x 1 = decide ((k + 1).tmod 3 = 0)
def cnv_Session (x : V) : V := V.agg [(V.int .i64 (gi x 0)), (V.bool (gb x 1))]
theorem cnv_Session_W (x : V) (h : W_Session x) : W_Session (cnv_Session x) := ⟨h.1, h.2⟩
theorem cnv_Session_z (x : V) : z_Session (cnv_Session x) = z_Session x := rfl
theorem cnv_Session_c (x : V) : c_Session (cnv_Session x) = c_Session x := rfl
theorem cnv_Session_ct (x : V) : ct_Session (cnv_Session x) = ct_Session x := rfl
theorem c_Session_cz (x : V) : c_Session x ≤ 2 * (1 + z_Session x) := by
  simp only [c_Session, z_Session]; omega
theorem ct_Session_cz (x : V) : ct_Session x ≤ 2 * z_Session x := by
  simp only [ct_Session, z_Session]; omega
def W_Last (x : V) : Prop := I64 (gi x 0) ∧ I64 (gi x 1) ∧ I64 (gi x 2) ∧ I64 (gi x 3)
def z_Last (x : V) : Nat := 0
def c_Last (x : V) : Nat := 1 + 1 + 1 + 1
def ct_Last (x : V) : Nat := 0
def M_Last (x : V) (k : Int) : Prop := gi x 0 = k ∧ gi x 1 = k + 1 ∧ gi x 2 = k + 1 + 1 ∧ gi x 3 = k + 1 + 1 + 1
def cnv_Last (x : V) : V := V.agg [(V.int .i64 (gi x 0)), (V.int .i64 (gi x 1)), (V.int .i64 (gi x 2)), (V.int .i64 (gi x 3))]
theorem cnv_Last_W (x : V) (h : W_Last x) : W_Last (cnv_Last x) := ⟨h.1, h.2.1, h.2.2.1, h.2.2.2⟩
theorem cnv_Last_z (x : V) : z_Last (cnv_Last x) = z_Last x := rfl
theorem cnv_Last_c (x : V) : c_Last (cnv_Last x) = c_Last x := rfl
theorem cnv_Last_ct (x : V) : ct_Last (cnv_Last x) = ct_Last x := rfl
theorem c_Last_cz (x : V) : c_Last x ≤ 4 * (1 + z_Last x) := by
  simp only [c_Last, z_Last]; omega
theorem ct_Last_cz (x : V) : ct_Last x ≤ 4 * z_Last x := by
  simp only [ct_Last, z_Last]; omega
def W_State (x : V) : Prop := I64 (gi x 0) ∧ LW W_Row (gl x 1) ∧ LW W_Tomb (gl x 2) ∧ I64 (gi x 3) ∧ LW W_Session (gl x 4) ∧ LW W_Last (gl x 5)
def z_State (x : V) : Nat := zS z_Row (gl x 1) + zS z_Tomb (gl x 2) + zS z_Session (gl x 4) + zS z_Last (gl x 5)
def c_State (x : V) : Nat := 1 + sumL c_Row (gl x 1) + sumL c_Tomb (gl x 2) + 1 + sumL c_Session (gl x 4) + sumL c_Last (gl x 5)
def ct_State (x : V) : Nat := sumL c_Row (gl x 1) + sumL c_Tomb (gl x 2) + sumL c_Session (gl x 4) + sumL c_Last (gl x 5)
def M_State (x : V) (k : Int) : Prop := gi x 0 = k ∧ MS c_Row M_Row (gl x 1) (k + 1) ∧ MS c_Tomb M_Tomb (gl x 2) (k + 1 + ((sumL c_Row (gl x 1) : Nat) : Int)) ∧ gi x 3 = k + 1 + ((sumL c_Row (gl x 1) : Nat) : Int) + ((sumL c_Tomb (gl x 2) : Nat) : Int) ∧ MS c_Session M_Session (gl x 4) (k + 1 + ((sumL c_Row (gl x 1) : Nat) : Int) + ((sumL c_Tomb (gl x 2) : Nat) : Int) + 1) ∧ MS c_Last M_Last (gl x 5) (k + 1 + ((sumL c_Row (gl x 1) : Nat) : Int) + ((sumL c_Tomb (gl x 2) : Nat) : Int) + 1 + ((sumL c_Session (gl x 4) : Nat) : Int))
def cnv_State (x : V) : V := V.agg [(V.int .i64 (gi x 0)), V.inl t_impl_Row ((gl x 1).map cnv_Row), V.inl t_impl_Tomb ((gl x 2).map cnv_Tomb), (V.int .i64 (gi x 3)), V.inl t_impl_Session ((gl x 4).map cnv_Session), V.inl t_impl_Last ((gl x 5).map cnv_Last)]
theorem cnv_State_W (x : V) (h : W_State x) : W_State (cnv_State x) := ⟨h.1, LW.map (h := cnv_Row) cnv_Row_W (h.2.1), LW.map (h := cnv_Tomb) cnv_Tomb_W (h.2.2.1), h.2.2.2.1, LW.map (h := cnv_Session) cnv_Session_W (h.2.2.2.2.1), LW.map (h := cnv_Last) cnv_Last_W (h.2.2.2.2.2)⟩
theorem cnv_State_z (x : V) : z_State (cnv_State x) = z_State x := by
  simp only [z_State, show gl (cnv_State x) 1 = (gl x 1).map cnv_Row from rfl, show gl (cnv_State x) 2 = (gl x 2).map cnv_Tomb from rfl, show gl (cnv_State x) 4 = (gl x 4).map cnv_Session from rfl, show gl (cnv_State x) 5 = (gl x 5).map cnv_Last from rfl, zS_map (h := cnv_Row) cnv_Row_z (gl x 1), zS_map (h := cnv_Tomb) cnv_Tomb_z (gl x 2), zS_map (h := cnv_Session) cnv_Session_z (gl x 4), zS_map (h := cnv_Last) cnv_Last_z (gl x 5)]
theorem cnv_State_c (x : V) : c_State (cnv_State x) = c_State x := by
  simp only [c_State, show gl (cnv_State x) 1 = (gl x 1).map cnv_Row from rfl, show gl (cnv_State x) 2 = (gl x 2).map cnv_Tomb from rfl, show gl (cnv_State x) 4 = (gl x 4).map cnv_Session from rfl, show gl (cnv_State x) 5 = (gl x 5).map cnv_Last from rfl, sumL_map (h := cnv_Row) cnv_Row_c (gl x 1), sumL_map (h := cnv_Tomb) cnv_Tomb_c (gl x 2), sumL_map (h := cnv_Session) cnv_Session_c (gl x 4), sumL_map (h := cnv_Last) cnv_Last_c (gl x 5)]
theorem cnv_State_ct (x : V) : ct_State (cnv_State x) = ct_State x := by
  simp only [ct_State, show gl (cnv_State x) 1 = (gl x 1).map cnv_Row from rfl, show gl (cnv_State x) 2 = (gl x 2).map cnv_Tomb from rfl, show gl (cnv_State x) 4 = (gl x 4).map cnv_Session from rfl, show gl (cnv_State x) 5 = (gl x 5).map cnv_Last from rfl, sumL_map (h := cnv_Row) cnv_Row_c (gl x 1), sumL_map (h := cnv_Tomb) cnv_Tomb_c (gl x 2), sumL_map (h := cnv_Session) cnv_Session_c (gl x 4), sumL_map (h := cnv_Last) cnv_Last_c (gl x 5)]
theorem c_State_cz (x : V) : c_State x ≤ 4 * (1 + z_State x) := by
  have h0 : sumL c_Row (gl x 1) ≤ 2 * zS z_Row (gl x 1) := sumL_mul 2 fun y _ => c_Row_cz y
  have h1 : sumL c_Tomb (gl x 2) ≤ 1 * zS z_Tomb (gl x 2) := sumL_mul 1 fun y _ => c_Tomb_cz y
  have h2 : sumL c_Session (gl x 4) ≤ 2 * zS z_Session (gl x 4) := sumL_mul 2 fun y _ => c_Session_cz y
  have h3 : sumL c_Last (gl x 5) ≤ 4 * zS z_Last (gl x 5) := sumL_mul 4 fun y _ => c_Last_cz y
  simp only [c_State, z_State]; omega
theorem ct_State_cz (x : V) : ct_State x ≤ 4 * z_State x := by
  have h0 : sumL c_Row (gl x 1) ≤ 2 * zS z_Row (gl x 1) := sumL_mul 2 fun y _ => c_Row_cz y
  have h1 : sumL c_Tomb (gl x 2) ≤ 1 * zS z_Tomb (gl x 2) := sumL_mul 1 fun y _ => c_Tomb_cz y
  have h2 : sumL c_Session (gl x 4) ≤ 2 * zS z_Session (gl x 4) := sumL_mul 2 fun y _ => c_Session_cz y
  have h3 : sumL c_Last (gl x 5) ≤ 4 * zS z_Last (gl x 5) := sumL_mul 4 fun y _ => c_Last_cz y
  simp only [ct_State, z_State]; omega
def W_Result (x : V) : Prop := True ∧ True ∧ LW W_Fact (gl x 2) ∧ LW W_Call (gl x 3) ∧ LW W_Note (gl x 4) ∧ LW W_Note (gl x 5) ∧ LW W_Node (gl x 6) ∧ LW W_State (gl x 7) ∧ LW W_bool (gl x 8) ∧ I64 (gi x 9) ∧ I64 (gi x 10)
def z_Result (x : V) : Nat := zS z_Fact (gl x 2) + zS z_Call (gl x 3) + zS z_Note (gl x 4) + zS z_Note (gl x 5) + zS z_Node (gl x 6) + zS z_State (gl x 7) + zS z0 (gl x 8)
def c_Result (x : V) : Nat := 1 + 1 + sumL c_Fact (gl x 2) + sumL c_Call (gl x 3) + sumL c_Note (gl x 4) + sumL c_Note (gl x 5) + sumL c_Node (gl x 6) + sumL c_State (gl x 7) + sumL c1 (gl x 8) + 1 + 1
def ct_Result (x : V) : Nat := sumL c_Fact (gl x 2) + sumL c_Call (gl x 3) + sumL c_Note (gl x 4) + sumL c_Note (gl x 5) + sumL c_Node (gl x 6) + sumL c_State (gl x 7) + sumL c1 (gl x 8)
def M_Result (x : V) (k : Int) : Prop := gb x 0 = decide ((k).tmod 3 = 0) ∧ gb x 1 = decide ((k + 1).tmod 3 = 0) ∧ MS c_Fact M_Fact (gl x 2) (k + 1 + 1) ∧ MS c_Call M_Call (gl x 3) (k + 1 + 1 + ((sumL c_Fact (gl x 2) : Nat) : Int)) ∧ MS c_Note M_Note (gl x 4) (k + 1 + 1 + ((sumL c_Fact (gl x 2) : Nat) : Int) + ((sumL c_Call (gl x 3) : Nat) : Int)) ∧ MS c_Note M_Note (gl x 5) (k + 1 + 1 + ((sumL c_Fact (gl x 2) : Nat) : Int) + ((sumL c_Call (gl x 3) : Nat) : Int) + ((sumL c_Note (gl x 4) : Nat) : Int)) ∧ MS c_Node M_Node (gl x 6) (k + 1 + 1 + ((sumL c_Fact (gl x 2) : Nat) : Int) + ((sumL c_Call (gl x 3) : Nat) : Int) + ((sumL c_Note (gl x 4) : Nat) : Int) + ((sumL c_Note (gl x 5) : Nat) : Int)) ∧ MS c_State M_State (gl x 7) (k + 1 + 1 + ((sumL c_Fact (gl x 2) : Nat) : Int) + ((sumL c_Call (gl x 3) : Nat) : Int) + ((sumL c_Note (gl x 4) : Nat) : Int) + ((sumL c_Note (gl x 5) : Nat) : Int) + ((sumL c_Node (gl x 6) : Nat) : Int)) ∧ MS c1 M_bool (gl x 8) (k + 1 + 1 + ((sumL c_Fact (gl x 2) : Nat) : Int) + ((sumL c_Call (gl x 3) : Nat) : Int) + ((sumL c_Note (gl x 4) : Nat) : Int) + ((sumL c_Note (gl x 5) : Nat) : Int) + ((sumL c_Node (gl x 6) : Nat) : Int) + ((sumL c_State (gl x 7) : Nat) : Int)) ∧ gi x 9 = k + 1 + 1 + ((sumL c_Fact (gl x 2) : Nat) : Int) + ((sumL c_Call (gl x 3) : Nat) : Int) + ((sumL c_Note (gl x 4) : Nat) : Int) + ((sumL c_Note (gl x 5) : Nat) : Int) + ((sumL c_Node (gl x 6) : Nat) : Int) + ((sumL c_State (gl x 7) : Nat) : Int) + ((sumL c1 (gl x 8) : Nat) : Int) ∧ gi x 10 = k + 1 + 1 + ((sumL c_Fact (gl x 2) : Nat) : Int) + ((sumL c_Call (gl x 3) : Nat) : Int) + ((sumL c_Note (gl x 4) : Nat) : Int) + ((sumL c_Note (gl x 5) : Nat) : Int) + ((sumL c_Node (gl x 6) : Nat) : Int) + ((sumL c_State (gl x 7) : Nat) : Int) + ((sumL c1 (gl x 8) : Nat) : Int) + 1
def cnv_Result (x : V) : V := V.agg [(V.bool (gb x 0)), (V.bool (gb x 1)), V.inl t_impl_Fact ((gl x 2).map cnv_Fact), V.inl t_impl_Call ((gl x 3).map cnv_Call), V.inl t_impl_Note ((gl x 4).map cnv_Note), V.inl t_impl_Note ((gl x 5).map cnv_Note), V.inl t_impl_Node ((gl x 6).map cnv_Node), V.inl t_impl_State ((gl x 7).map cnv_State), V.inl t_bool ((gl x 8).map cnv_bool), (V.int .i64 (gi x 9)), (V.int .i64 (gi x 10))]
theorem cnv_Result_W (x : V) (h : W_Result x) : W_Result (cnv_Result x) := ⟨h.1, h.2.1, LW.map (h := cnv_Fact) cnv_Fact_W (h.2.2.1), LW.map (h := cnv_Call) cnv_Call_W (h.2.2.2.1), LW.map (h := cnv_Note) cnv_Note_W (h.2.2.2.2.1), LW.map (h := cnv_Note) cnv_Note_W (h.2.2.2.2.2.1), LW.map (h := cnv_Node) cnv_Node_W (h.2.2.2.2.2.2.1), LW.map (h := cnv_State) cnv_State_W (h.2.2.2.2.2.2.2.1), LW.map (h := cnv_bool) cnv_bool_W (h.2.2.2.2.2.2.2.2.1), h.2.2.2.2.2.2.2.2.2.1, h.2.2.2.2.2.2.2.2.2.2⟩
theorem cnv_Result_z (x : V) : z_Result (cnv_Result x) = z_Result x := by
  simp only [z_Result, show gl (cnv_Result x) 2 = (gl x 2).map cnv_Fact from rfl, show gl (cnv_Result x) 3 = (gl x 3).map cnv_Call from rfl, show gl (cnv_Result x) 4 = (gl x 4).map cnv_Note from rfl, show gl (cnv_Result x) 5 = (gl x 5).map cnv_Note from rfl, show gl (cnv_Result x) 6 = (gl x 6).map cnv_Node from rfl, show gl (cnv_Result x) 7 = (gl x 7).map cnv_State from rfl, show gl (cnv_Result x) 8 = (gl x 8).map cnv_bool from rfl, zS_map (h := cnv_Fact) cnv_Fact_z (gl x 2), zS_map (h := cnv_Call) cnv_Call_z (gl x 3), zS_map (h := cnv_Note) cnv_Note_z (gl x 4), zS_map (h := cnv_Note) cnv_Note_z (gl x 5), zS_map (h := cnv_Node) cnv_Node_z (gl x 6), zS_map (h := cnv_State) cnv_State_z (gl x 7), zS_map (h := cnv_bool) cnv_bool_z (gl x 8)]
theorem cnv_Result_c (x : V) : c_Result (cnv_Result x) = c_Result x := by
  simp only [c_Result, show gl (cnv_Result x) 2 = (gl x 2).map cnv_Fact from rfl, show gl (cnv_Result x) 3 = (gl x 3).map cnv_Call from rfl, show gl (cnv_Result x) 4 = (gl x 4).map cnv_Note from rfl, show gl (cnv_Result x) 5 = (gl x 5).map cnv_Note from rfl, show gl (cnv_Result x) 6 = (gl x 6).map cnv_Node from rfl, show gl (cnv_Result x) 7 = (gl x 7).map cnv_State from rfl, show gl (cnv_Result x) 8 = (gl x 8).map cnv_bool from rfl, sumL_map (h := cnv_Fact) cnv_Fact_c (gl x 2), sumL_map (h := cnv_Call) cnv_Call_c (gl x 3), sumL_map (h := cnv_Note) cnv_Note_c (gl x 4), sumL_map (h := cnv_Note) cnv_Note_c (gl x 5), sumL_map (h := cnv_Node) cnv_Node_c (gl x 6), sumL_map (h := cnv_State) cnv_State_c (gl x 7), sumL_map (h := cnv_bool) cnv_bool_c (gl x 8)]
theorem cnv_Result_ct (x : V) : ct_Result (cnv_Result x) = ct_Result x := by
  simp only [ct_Result, show gl (cnv_Result x) 2 = (gl x 2).map cnv_Fact from rfl, show gl (cnv_Result x) 3 = (gl x 3).map cnv_Call from rfl, show gl (cnv_Result x) 4 = (gl x 4).map cnv_Note from rfl, show gl (cnv_Result x) 5 = (gl x 5).map cnv_Note from rfl, show gl (cnv_Result x) 6 = (gl x 6).map cnv_Node from rfl, show gl (cnv_Result x) 7 = (gl x 7).map cnv_State from rfl, show gl (cnv_Result x) 8 = (gl x 8).map cnv_bool from rfl, sumL_map (h := cnv_Fact) cnv_Fact_c (gl x 2), sumL_map (h := cnv_Call) cnv_Call_c (gl x 3), sumL_map (h := cnv_Note) cnv_Note_c (gl x 4), sumL_map (h := cnv_Note) cnv_Note_c (gl x 5), sumL_map (h := cnv_Node) cnv_Node_c (gl x 6), sumL_map (h := cnv_State) cnv_State_c (gl x 7), sumL_map (h := cnv_bool) cnv_bool_c (gl x 8)]
theorem c_Result_cz (x : V) : c_Result x ≤ 8 * (1 + z_Result x) := by
  have h0 : sumL c_Fact (gl x 2) ≤ 5 * zS z_Fact (gl x 2) := sumL_mul 5 fun y _ => c_Fact_cz y
  have h1 : sumL c_Call (gl x 3) ≤ 8 * zS z_Call (gl x 3) := sumL_mul 8 fun y _ => c_Call_cz y
  have h2 : sumL c_Note (gl x 4) ≤ 6 * zS z_Note (gl x 4) := sumL_mul 6 fun y _ => c_Note_cz y
  have h3 : sumL c_Note (gl x 5) ≤ 6 * zS z_Note (gl x 5) := sumL_mul 6 fun y _ => c_Note_cz y
  have h4 : sumL c_Node (gl x 6) ≤ 7 * zS z_Node (gl x 6) := sumL_mul 7 fun y _ => c_Node_cz y
  have h5 : sumL c_State (gl x 7) ≤ 4 * zS z_State (gl x 7) := sumL_mul 4 fun y _ => c_State_cz y
  have h6 : sumL c1 (gl x 8) ≤ 1 * zS z0 (gl x 8) := by rw [sumL_c1, zS_z0]; omega
  simp only [c_Result, z_Result]; omega
theorem ct_Result_cz (x : V) : ct_Result x ≤ 8 * z_Result x := by
  have h0 : sumL c_Fact (gl x 2) ≤ 5 * zS z_Fact (gl x 2) := sumL_mul 5 fun y _ => c_Fact_cz y
  have h1 : sumL c_Call (gl x 3) ≤ 8 * zS z_Call (gl x 3) := sumL_mul 8 fun y _ => c_Call_cz y
  have h2 : sumL c_Note (gl x 4) ≤ 6 * zS z_Note (gl x 4) := sumL_mul 6 fun y _ => c_Note_cz y
  have h3 : sumL c_Note (gl x 5) ≤ 6 * zS z_Note (gl x 5) := sumL_mul 6 fun y _ => c_Note_cz y
  have h4 : sumL c_Node (gl x 6) ≤ 7 * zS z_Node (gl x 6) := sumL_mul 7 fun y _ => c_Node_cz y
  have h5 : sumL c_State (gl x 7) ≤ 4 * zS z_State (gl x 7) := sumL_mul 4 fun y _ => c_State_cz y
  have h6 : sumL c1 (gl x 8) ≤ 1 * zS z0 (gl x 8) := by rw [sumL_c1, zS_z0]; omega
  simp only [ct_Result, z_Result]; omega
def W_Reply (x : V) : Prop := I64 (gi x 0) ∧ I64 (gi x 1)
def z_Reply (x : V) : Nat := 0
def c_Reply (x : V) : Nat := 1 + 1
def ct_Reply (x : V) : Nat := 0
def M_Reply (x : V) (k : Int) : Prop := gi x 0 = k ∧ gi x 1 = k + 1
def cnv_Reply (x : V) : V := V.agg [(V.int .i64 (gi x 0)), (V.int .i64 (gi x 1))]
theorem cnv_Reply_W (x : V) (h : W_Reply x) : W_Reply (cnv_Reply x) := ⟨h.1, h.2⟩
theorem cnv_Reply_z (x : V) : z_Reply (cnv_Reply x) = z_Reply x := rfl
theorem cnv_Reply_c (x : V) : c_Reply (cnv_Reply x) = c_Reply x := rfl
theorem cnv_Reply_ct (x : V) : ct_Reply (cnv_Reply x) = ct_Reply x := rfl
theorem c_Reply_cz (x : V) : c_Reply x ≤ 2 * (1 + z_Reply x) := by
  simp only [c_Reply, z_Reply]; omega
theorem ct_Reply_cz (x : V) : ct_Reply x ≤ 2 * z_Reply x := by
  simp only [ct_Reply, z_Reply]; omega
def W_View (x : V) : Prop := I64 (gi x 0) ∧ True ∧ LW W_byte (gl x 2)
def z_View (x : V) : Nat := zS z0 (gl x 2)
def c_View (x : V) : Nat := 1 + 1 + sumL c1 (gl x 2)
def ct_View (x : V) : Nat := sumL c1 (gl x 2)
def M_View (x : V) (k : Int) : Prop := gi x 0 = k ∧ gb x 1 = decide ((k + 1).tmod 3 = 0) ∧ MS c1 M_byte (gl x 2) (k + 1 + 1)
def cnv_View (x : V) : V := V.agg [(V.int .i64 (gi x 0)), (V.bool (gb x 1)), V.inl t_byte ((gl x 2).map cnv_byte)]
theorem cnv_View_W (x : V) (h : W_View x) : W_View (cnv_View x) := ⟨h.1, h.2.1, LW.map (h := cnv_byte) cnv_byte_W (h.2.2)⟩
theorem cnv_View_z (x : V) : z_View (cnv_View x) = z_View x := by
  simp only [z_View, show gl (cnv_View x) 2 = (gl x 2).map cnv_byte from rfl, zS_map (h := cnv_byte) cnv_byte_z (gl x 2)]
theorem cnv_View_c (x : V) : c_View (cnv_View x) = c_View x := by
  simp only [c_View, show gl (cnv_View x) 2 = (gl x 2).map cnv_byte from rfl, sumL_map (h := cnv_byte) cnv_byte_c (gl x 2)]
theorem cnv_View_ct (x : V) : ct_View (cnv_View x) = ct_View x := by
  simp only [ct_View, show gl (cnv_View x) 2 = (gl x 2).map cnv_byte from rfl, sumL_map (h := cnv_byte) cnv_byte_c (gl x 2)]
theorem c_View_cz (x : V) : c_View x ≤ 2 * (1 + z_View x) := by
  have h0 : sumL c1 (gl x 2) ≤ 1 * zS z0 (gl x 2) := by rw [sumL_c1, zS_z0]; omega
  simp only [c_View, z_View]; omega
theorem ct_View_cz (x : V) : ct_View x ≤ 2 * z_View x := by
  have h0 : sumL c1 (gl x 2) ≤ 1 * zS z0 (gl x 2) := by rw [sumL_c1, zS_z0]; omega
  simp only [ct_View, z_View]; omega
def W_Cmd (x : V) : Prop := I64 (gi x 0) ∧ I64 (gi x 1) ∧ I64 (gi x 2) ∧ LW W_byte (gl x 3) ∧ LW W_byte (gl x 4) ∧ I64 (gi x 5)
def z_Cmd (x : V) : Nat := zS z0 (gl x 3) + zS z0 (gl x 4)
def c_Cmd (x : V) : Nat := 1 + 1 + 1 + sumL c1 (gl x 3) + sumL c1 (gl x 4) + 1
def ct_Cmd (x : V) : Nat := sumL c1 (gl x 3) + sumL c1 (gl x 4)
def M_Cmd (x : V) (k : Int) : Prop := gi x 0 = k ∧ gi x 1 = k + 1 ∧ gi x 2 = k + 1 + 1 ∧ MS c1 M_byte (gl x 3) (k + 1 + 1 + 1) ∧ MS c1 M_byte (gl x 4) (k + 1 + 1 + 1 + ((sumL c1 (gl x 3) : Nat) : Int)) ∧ gi x 5 = k + 1 + 1 + 1 + ((sumL c1 (gl x 3) : Nat) : Int) + ((sumL c1 (gl x 4) : Nat) : Int)
def cnv_Cmd (x : V) : V := V.agg [(V.int .i64 (gi x 0)), (V.int .i64 (gi x 1)), (V.int .i64 (gi x 2)), V.inl t_byte ((gl x 3).map cnv_byte), V.inl t_byte ((gl x 4).map cnv_byte), (V.int .i64 (gi x 5))]
theorem cnv_Cmd_W (x : V) (h : W_Cmd x) : W_Cmd (cnv_Cmd x) := ⟨h.1, h.2.1, h.2.2.1, LW.map (h := cnv_byte) cnv_byte_W (h.2.2.2.1), LW.map (h := cnv_byte) cnv_byte_W (h.2.2.2.2.1), h.2.2.2.2.2⟩
theorem cnv_Cmd_z (x : V) : z_Cmd (cnv_Cmd x) = z_Cmd x := by
  simp only [z_Cmd, show gl (cnv_Cmd x) 3 = (gl x 3).map cnv_byte from rfl, show gl (cnv_Cmd x) 4 = (gl x 4).map cnv_byte from rfl, zS_map (h := cnv_byte) cnv_byte_z (gl x 3), zS_map (h := cnv_byte) cnv_byte_z (gl x 4)]
theorem cnv_Cmd_c (x : V) : c_Cmd (cnv_Cmd x) = c_Cmd x := by
  simp only [c_Cmd, show gl (cnv_Cmd x) 3 = (gl x 3).map cnv_byte from rfl, show gl (cnv_Cmd x) 4 = (gl x 4).map cnv_byte from rfl, sumL_map (h := cnv_byte) cnv_byte_c (gl x 3), sumL_map (h := cnv_byte) cnv_byte_c (gl x 4)]
theorem cnv_Cmd_ct (x : V) : ct_Cmd (cnv_Cmd x) = ct_Cmd x := by
  simp only [ct_Cmd, show gl (cnv_Cmd x) 3 = (gl x 3).map cnv_byte from rfl, show gl (cnv_Cmd x) 4 = (gl x 4).map cnv_byte from rfl, sumL_map (h := cnv_byte) cnv_byte_c (gl x 3), sumL_map (h := cnv_byte) cnv_byte_c (gl x 4)]
theorem c_Cmd_cz (x : V) : c_Cmd x ≤ 4 * (1 + z_Cmd x) := by
  have h0 : sumL c1 (gl x 3) ≤ 1 * zS z0 (gl x 3) := by rw [sumL_c1, zS_z0]; omega
  have h1 : sumL c1 (gl x 4) ≤ 1 * zS z0 (gl x 4) := by rw [sumL_c1, zS_z0]; omega
  simp only [c_Cmd, z_Cmd]; omega
theorem ct_Cmd_cz (x : V) : ct_Cmd x ≤ 4 * z_Cmd x := by
  have h0 : sumL c1 (gl x 3) ≤ 1 * zS z0 (gl x 3) := by rw [sumL_c1, zS_z0]; omega
  have h1 : sumL c1 (gl x 4) ≤ 1 * zS z0 (gl x 4) := by rw [sumL_c1, zS_z0]; omega
  simp only [ct_Cmd, z_Cmd]; omega
def W_server (x : V) : Prop := I64 (gi x 0) ∧ I64 (gi x 1) ∧ I64 (gi x 2) ∧ LW W_Item (gl x 3) ∧ I64 (gi x 4) ∧ I64 (gi x 5) ∧ I64 (gi x 6) ∧ I64 (gi x 7) ∧ LW W_bool (gl x 8) ∧ LW W_int (gl x 9) ∧ LW W_int (gl x 10) ∧ LW W_Msg (gl x 11)
def z_server (x : V) : Nat := zS z_Item (gl x 3) + zS z0 (gl x 8) + zS z0 (gl x 9) + zS z0 (gl x 10) + zS z_Msg (gl x 11)
def c_server (x : V) : Nat := 1 + 1 + 1 + sumL c_Item (gl x 3) + 1 + 1 + 1 + 1 + sumL c1 (gl x 8) + sumL c1 (gl x 9) + sumL c1 (gl x 10) + sumL c_Msg (gl x 11)
def ct_server (x : V) : Nat := sumL c_Item (gl x 3) + sumL c1 (gl x 8) + sumL c1 (gl x 9) + sumL c1 (gl x 10) + sumL c_Msg (gl x 11)
def M_server (x : V) (k : Int) : Prop := gi x 0 = k ∧ gi x 1 = k + 1 ∧ gi x 2 = k + 1 + 1 ∧ MS c_Item M_Item (gl x 3) (k + 1 + 1 + 1) ∧ gi x 4 = k + 1 + 1 + 1 + ((sumL c_Item (gl x 3) : Nat) : Int) ∧ gi x 5 = k + 1 + 1 + 1 + ((sumL c_Item (gl x 3) : Nat) : Int) + 1 ∧ gi x 6 = k + 1 + 1 + 1 + ((sumL c_Item (gl x 3) : Nat) : Int) + 1 + 1 ∧ gi x 7 = k + 1 + 1 + 1 + ((sumL c_Item (gl x 3) : Nat) : Int) + 1 + 1 + 1 ∧ MS c1 M_bool (gl x 8) (k + 1 + 1 + 1 + ((sumL c_Item (gl x 3) : Nat) : Int) + 1 + 1 + 1 + 1) ∧ MS c1 M_int (gl x 9) (k + 1 + 1 + 1 + ((sumL c_Item (gl x 3) : Nat) : Int) + 1 + 1 + 1 + 1 + ((sumL c1 (gl x 8) : Nat) : Int)) ∧ MS c1 M_int (gl x 10) (k + 1 + 1 + 1 + ((sumL c_Item (gl x 3) : Nat) : Int) + 1 + 1 + 1 + 1 + ((sumL c1 (gl x 8) : Nat) : Int) + ((sumL c1 (gl x 9) : Nat) : Int)) ∧ MS c_Msg M_Msg (gl x 11) (k + 1 + 1 + 1 + ((sumL c_Item (gl x 3) : Nat) : Int) + 1 + 1 + 1 + 1 + ((sumL c1 (gl x 8) : Nat) : Int) + ((sumL c1 (gl x 9) : Nat) : Int) + ((sumL c1 (gl x 10) : Nat) : Int))
def cnv_server (x : V) : V := V.agg [(V.int .i64 (gi x 0)), (V.int .i64 (gi x 1)), (V.int .i64 (gi x 2)), V.inl t_impl_Item ((gl x 3).map cnv_Item), (V.int .i64 (gi x 4)), (V.int .i64 (gi x 5)), (V.int .i64 (gi x 6)), (V.int .i64 (gi x 7)), V.inl t_bool ((gl x 8).map cnv_bool), V.inl t_int' ((gl x 9).map cnv_int), V.inl t_int' ((gl x 10).map cnv_int), V.inl t_impl_Msg ((gl x 11).map cnv_Msg)]
theorem cnv_server_W (x : V) (h : W_server x) : W_server (cnv_server x) := ⟨h.1, h.2.1, h.2.2.1, LW.map (h := cnv_Item) cnv_Item_W (h.2.2.2.1), h.2.2.2.2.1, h.2.2.2.2.2.1, h.2.2.2.2.2.2.1, h.2.2.2.2.2.2.2.1, LW.map (h := cnv_bool) cnv_bool_W (h.2.2.2.2.2.2.2.2.1), LW.map (h := cnv_int) cnv_int_W (h.2.2.2.2.2.2.2.2.2.1), LW.map (h := cnv_int) cnv_int_W (h.2.2.2.2.2.2.2.2.2.2.1), LW.map (h := cnv_Msg) cnv_Msg_W (h.2.2.2.2.2.2.2.2.2.2.2)⟩
theorem cnv_server_z (x : V) : z_server (cnv_server x) = z_server x := by
  simp only [z_server, show gl (cnv_server x) 3 = (gl x 3).map cnv_Item from rfl, show gl (cnv_server x) 8 = (gl x 8).map cnv_bool from rfl, show gl (cnv_server x) 9 = (gl x 9).map cnv_int from rfl, show gl (cnv_server x) 10 = (gl x 10).map cnv_int from rfl, show gl (cnv_server x) 11 = (gl x 11).map cnv_Msg from rfl, zS_map (h := cnv_Item) cnv_Item_z (gl x 3), zS_map (h := cnv_bool) cnv_bool_z (gl x 8), zS_map (h := cnv_int) cnv_int_z (gl x 9), zS_map (h := cnv_int) cnv_int_z (gl x 10), zS_map (h := cnv_Msg) cnv_Msg_z (gl x 11)]
theorem cnv_server_c (x : V) : c_server (cnv_server x) = c_server x := by
  simp only [c_server, show gl (cnv_server x) 3 = (gl x 3).map cnv_Item from rfl, show gl (cnv_server x) 8 = (gl x 8).map cnv_bool from rfl, show gl (cnv_server x) 9 = (gl x 9).map cnv_int from rfl, show gl (cnv_server x) 10 = (gl x 10).map cnv_int from rfl, show gl (cnv_server x) 11 = (gl x 11).map cnv_Msg from rfl, sumL_map (h := cnv_Item) cnv_Item_c (gl x 3), sumL_map (h := cnv_bool) cnv_bool_c (gl x 8), sumL_map (h := cnv_int) cnv_int_c (gl x 9), sumL_map (h := cnv_int) cnv_int_c (gl x 10), sumL_map (h := cnv_Msg) cnv_Msg_c (gl x 11)]
theorem cnv_server_ct (x : V) : ct_server (cnv_server x) = ct_server x := by
  simp only [ct_server, show gl (cnv_server x) 3 = (gl x 3).map cnv_Item from rfl, show gl (cnv_server x) 8 = (gl x 8).map cnv_bool from rfl, show gl (cnv_server x) 9 = (gl x 9).map cnv_int from rfl, show gl (cnv_server x) 10 = (gl x 10).map cnv_int from rfl, show gl (cnv_server x) 11 = (gl x 11).map cnv_Msg from rfl, sumL_map (h := cnv_Item) cnv_Item_c (gl x 3), sumL_map (h := cnv_bool) cnv_bool_c (gl x 8), sumL_map (h := cnv_int) cnv_int_c (gl x 9), sumL_map (h := cnv_int) cnv_int_c (gl x 10), sumL_map (h := cnv_Msg) cnv_Msg_c (gl x 11)]
theorem c_server_cz (x : V) : c_server x ≤ 8 * (1 + z_server x) := by
  have h0 : sumL c_Item (gl x 3) ≤ 5 * zS z_Item (gl x 3) := sumL_mul 5 fun y _ => c_Item_cz y
  have h1 : sumL c1 (gl x 8) ≤ 1 * zS z0 (gl x 8) := by rw [sumL_c1, zS_z0]; omega
  have h2 : sumL c1 (gl x 9) ≤ 1 * zS z0 (gl x 9) := by rw [sumL_c1, zS_z0]; omega
  have h3 : sumL c1 (gl x 10) ≤ 1 * zS z0 (gl x 10) := by rw [sumL_c1, zS_z0]; omega
  have h4 : sumL c_Msg (gl x 11) ≤ 8 * zS z_Msg (gl x 11) := sumL_mul 8 fun y _ => c_Msg_cz y
  simp only [c_server, z_server]; omega
theorem ct_server_cz (x : V) : ct_server x ≤ 8 * z_server x := by
  have h0 : sumL c_Item (gl x 3) ≤ 5 * zS z_Item (gl x 3) := sumL_mul 5 fun y _ => c_Item_cz y
  have h1 : sumL c1 (gl x 8) ≤ 1 * zS z0 (gl x 8) := by rw [sumL_c1, zS_z0]; omega
  have h2 : sumL c1 (gl x 9) ≤ 1 * zS z0 (gl x 9) := by rw [sumL_c1, zS_z0]; omega
  have h3 : sumL c1 (gl x 10) ≤ 1 * zS z0 (gl x 10) := by rw [sumL_c1, zS_z0]; omega
  have h4 : sumL c_Msg (gl x 11) ≤ 8 * zS z_Msg (gl x 11) := sumL_mul 8 fun y _ => c_Msg_cz y
  simp only [ct_server, z_server]; omega
def W_watch (x : V) : Prop := LW W_byte (gl x 0) ∧ I64 (gi x 1)
def z_watch (x : V) : Nat := zS z0 (gl x 0)
def c_watch (x : V) : Nat := sumL c1 (gl x 0) + 1
def ct_watch (x : V) : Nat := sumL c1 (gl x 0)
def M_watch (x : V) (k : Int) : Prop := MS c1 M_byte (gl x 0) (k) ∧ gi x 1 = k + ((sumL c1 (gl x 0) : Nat) : Int)
def cnv_watch (x : V) : V := V.agg [V.inl t_byte ((gl x 0).map cnv_byte), (V.int .i64 (gi x 1))]
theorem cnv_watch_W (x : V) (h : W_watch x) : W_watch (cnv_watch x) := ⟨LW.map (h := cnv_byte) cnv_byte_W (h.1), h.2⟩
theorem cnv_watch_z (x : V) : z_watch (cnv_watch x) = z_watch x := by
  simp only [z_watch, show gl (cnv_watch x) 0 = (gl x 0).map cnv_byte from rfl, zS_map (h := cnv_byte) cnv_byte_z (gl x 0)]
theorem cnv_watch_c (x : V) : c_watch (cnv_watch x) = c_watch x := by
  simp only [c_watch, show gl (cnv_watch x) 0 = (gl x 0).map cnv_byte from rfl, sumL_map (h := cnv_byte) cnv_byte_c (gl x 0)]
theorem cnv_watch_ct (x : V) : ct_watch (cnv_watch x) = ct_watch x := by
  simp only [ct_watch, show gl (cnv_watch x) 0 = (gl x 0).map cnv_byte from rfl, sumL_map (h := cnv_byte) cnv_byte_c (gl x 0)]
theorem c_watch_cz (x : V) : c_watch x ≤ 1 * (1 + z_watch x) := by
  have h0 : sumL c1 (gl x 0) ≤ 1 * zS z0 (gl x 0) := by rw [sumL_c1, zS_z0]; omega
  simp only [c_watch, z_watch]; omega
theorem ct_watch_cz (x : V) : ct_watch x ≤ 1 * z_watch x := by
  have h0 : sumL c1 (gl x 0) ≤ 1 * zS z0 (gl x 0) := by rw [sumL_c1, zS_z0]; omega
  simp only [ct_watch, z_watch]; omega
def W_seat (x : V) : Prop := I64 (gi x 0) ∧ I64 (gi x 1) ∧ I64 (gi x 2) ∧ LW W_Item (gl x 3) ∧ I64 (gi x 4) ∧ I64 (gi x 5) ∧ I64 (gi x 6) ∧ I64 (gi x 7) ∧ LW W_bool (gl x 8) ∧ LW W_int (gl x 9) ∧ LW W_int (gl x 10) ∧ I64 (gi x 11) ∧ LW W_Row (gl x 12) ∧ LW W_Tomb (gl x 13) ∧ I64 (gi x 14) ∧ LW W_Session (gl x 15) ∧ LW W_Last (gl x 16) ∧ I64 (gi x 17) ∧ True ∧ LW W_watch (gl x 19)
def z_seat (x : V) : Nat := zS z_Item (gl x 3) + zS z0 (gl x 8) + zS z0 (gl x 9) + zS z0 (gl x 10) + zS z_Row (gl x 12) + zS z_Tomb (gl x 13) + zS z_Session (gl x 15) + zS z_Last (gl x 16) + zS z_watch (gl x 19)
def c_seat (x : V) : Nat := 1 + 1 + 1 + sumL c_Item (gl x 3) + 1 + 1 + 1 + 1 + sumL c1 (gl x 8) + sumL c1 (gl x 9) + sumL c1 (gl x 10) + 1 + sumL c_Row (gl x 12) + sumL c_Tomb (gl x 13) + 1 + sumL c_Session (gl x 15) + sumL c_Last (gl x 16) + 1 + 1 + sumL c_watch (gl x 19)
def ct_seat (x : V) : Nat := sumL c_Item (gl x 3) + sumL c1 (gl x 8) + sumL c1 (gl x 9) + sumL c1 (gl x 10) + sumL c_Row (gl x 12) + sumL c_Tomb (gl x 13) + sumL c_Session (gl x 15) + sumL c_Last (gl x 16) + sumL c_watch (gl x 19)
def M_seat (x : V) (k : Int) : Prop := gi x 0 = k ∧ gi x 1 = k + 1 ∧ gi x 2 = k + 1 + 1 ∧ MS c_Item M_Item (gl x 3) (k + 1 + 1 + 1) ∧ gi x 4 = k + 1 + 1 + 1 + ((sumL c_Item (gl x 3) : Nat) : Int) ∧ gi x 5 = k + 1 + 1 + 1 + ((sumL c_Item (gl x 3) : Nat) : Int) + 1 ∧ gi x 6 = k + 1 + 1 + 1 + ((sumL c_Item (gl x 3) : Nat) : Int) + 1 + 1 ∧ gi x 7 = k + 1 + 1 + 1 + ((sumL c_Item (gl x 3) : Nat) : Int) + 1 + 1 + 1 ∧ MS c1 M_bool (gl x 8) (k + 1 + 1 + 1 + ((sumL c_Item (gl x 3) : Nat) : Int) + 1 + 1 + 1 + 1) ∧ MS c1 M_int (gl x 9) (k + 1 + 1 + 1 + ((sumL c_Item (gl x 3) : Nat) : Int) + 1 + 1 + 1 + 1 + ((sumL c1 (gl x 8) : Nat) : Int)) ∧ MS c1 M_int (gl x 10) (k + 1 + 1 + 1 + ((sumL c_Item (gl x 3) : Nat) : Int) + 1 + 1 + 1 + 1 + ((sumL c1 (gl x 8) : Nat) : Int) + ((sumL c1 (gl x 9) : Nat) : Int)) ∧ gi x 11 = k + 1 + 1 + 1 + ((sumL c_Item (gl x 3) : Nat) : Int) + 1 + 1 + 1 + 1 + ((sumL c1 (gl x 8) : Nat) : Int) + ((sumL c1 (gl x 9) : Nat) : Int) + ((sumL c1 (gl x 10) : Nat) : Int) ∧ MS c_Row M_Row (gl x 12) (k + 1 + 1 + 1 + ((sumL c_Item (gl x 3) : Nat) : Int) + 1 + 1 + 1 + 1 + ((sumL c1 (gl x 8) : Nat) : Int) + ((sumL c1 (gl x 9) : Nat) : Int) + ((sumL c1 (gl x 10) : Nat) : Int) + 1) ∧ MS c_Tomb M_Tomb (gl x 13) (k + 1 + 1 + 1 + ((sumL c_Item (gl x 3) : Nat) : Int) + 1 + 1 + 1 + 1 + ((sumL c1 (gl x 8) : Nat) : Int) + ((sumL c1 (gl x 9) : Nat) : Int) + ((sumL c1 (gl x 10) : Nat) : Int) + 1 + ((sumL c_Row (gl x 12) : Nat) : Int)) ∧ gi x 14 = k + 1 + 1 + 1 + ((sumL c_Item (gl x 3) : Nat) : Int) + 1 + 1 + 1 + 1 + ((sumL c1 (gl x 8) : Nat) : Int) + ((sumL c1 (gl x 9) : Nat) : Int) + ((sumL c1 (gl x 10) : Nat) : Int) + 1 + ((sumL c_Row (gl x 12) : Nat) : Int) + ((sumL c_Tomb (gl x 13) : Nat) : Int) ∧ MS c_Session M_Session (gl x 15) (k + 1 + 1 + 1 + ((sumL c_Item (gl x 3) : Nat) : Int) + 1 + 1 + 1 + 1 + ((sumL c1 (gl x 8) : Nat) : Int) + ((sumL c1 (gl x 9) : Nat) : Int) + ((sumL c1 (gl x 10) : Nat) : Int) + 1 + ((sumL c_Row (gl x 12) : Nat) : Int) + ((sumL c_Tomb (gl x 13) : Nat) : Int) + 1) ∧ MS c_Last M_Last (gl x 16) (k + 1 + 1 + 1 + ((sumL c_Item (gl x 3) : Nat) : Int) + 1 + 1 + 1 + 1 + ((sumL c1 (gl x 8) : Nat) : Int) + ((sumL c1 (gl x 9) : Nat) : Int) + ((sumL c1 (gl x 10) : Nat) : Int) + 1 + ((sumL c_Row (gl x 12) : Nat) : Int) + ((sumL c_Tomb (gl x 13) : Nat) : Int) + 1 + ((sumL c_Session (gl x 15) : Nat) : Int)) ∧ gi x 17 = k + 1 + 1 + 1 + ((sumL c_Item (gl x 3) : Nat) : Int) + 1 + 1 + 1 + 1 + ((sumL c1 (gl x 8) : Nat) : Int) + ((sumL c1 (gl x 9) : Nat) : Int) + ((sumL c1 (gl x 10) : Nat) : Int) + 1 + ((sumL c_Row (gl x 12) : Nat) : Int) + ((sumL c_Tomb (gl x 13) : Nat) : Int) + 1 + ((sumL c_Session (gl x 15) : Nat) : Int) + ((sumL c_Last (gl x 16) : Nat) : Int) ∧ gb x 18 = decide ((k + 1 + 1 + 1 + ((sumL c_Item (gl x 3) : Nat) : Int) + 1 + 1 + 1 + 1 + ((sumL c1 (gl x 8) : Nat) : Int) + ((sumL c1 (gl x 9) : Nat) : Int) + ((sumL c1 (gl x 10) : Nat) : Int) + 1 + ((sumL c_Row (gl x 12) : Nat) : Int) + ((sumL c_Tomb (gl x 13) : Nat) : Int) + 1 + ((sumL c_Session (gl x 15) : Nat) : Int) + ((sumL c_Last (gl x 16) : Nat) : Int) + 1).tmod 3 = 0) ∧ MS c_watch M_watch (gl x 19) (k + 1 + 1 + 1 + ((sumL c_Item (gl x 3) : Nat) : Int) + 1 + 1 + 1 + 1 + ((sumL c1 (gl x 8) : Nat) : Int) + ((sumL c1 (gl x 9) : Nat) : Int) + ((sumL c1 (gl x 10) : Nat) : Int) + 1 + ((sumL c_Row (gl x 12) : Nat) : Int) + ((sumL c_Tomb (gl x 13) : Nat) : Int) + 1 + ((sumL c_Session (gl x 15) : Nat) : Int) + ((sumL c_Last (gl x 16) : Nat) : Int) + 1 + 1)
def cnv_seat (x : V) : V := V.agg [(V.int .i64 (gi x 0)), (V.int .i64 (gi x 1)), (V.int .i64 (gi x 2)), V.inl t_impl_Item ((gl x 3).map cnv_Item), (V.int .i64 (gi x 4)), (V.int .i64 (gi x 5)), (V.int .i64 (gi x 6)), (V.int .i64 (gi x 7)), V.inl t_bool ((gl x 8).map cnv_bool), V.inl t_int' ((gl x 9).map cnv_int), V.inl t_int' ((gl x 10).map cnv_int), (V.int .i64 (gi x 11)), V.inl t_impl_Row ((gl x 12).map cnv_Row), V.inl t_impl_Tomb ((gl x 13).map cnv_Tomb), (V.int .i64 (gi x 14)), V.inl t_impl_Session ((gl x 15).map cnv_Session), V.inl t_impl_Last ((gl x 16).map cnv_Last), (V.int .i64 (gi x 17)), (V.bool (gb x 18)), V.inl t_impl_watch ((gl x 19).map cnv_watch)]
theorem cnv_seat_W (x : V) (h : W_seat x) : W_seat (cnv_seat x) := ⟨h.1, h.2.1, h.2.2.1, LW.map (h := cnv_Item) cnv_Item_W (h.2.2.2.1), h.2.2.2.2.1, h.2.2.2.2.2.1, h.2.2.2.2.2.2.1, h.2.2.2.2.2.2.2.1, LW.map (h := cnv_bool) cnv_bool_W (h.2.2.2.2.2.2.2.2.1), LW.map (h := cnv_int) cnv_int_W (h.2.2.2.2.2.2.2.2.2.1), LW.map (h := cnv_int) cnv_int_W (h.2.2.2.2.2.2.2.2.2.2.1), h.2.2.2.2.2.2.2.2.2.2.2.1, LW.map (h := cnv_Row) cnv_Row_W (h.2.2.2.2.2.2.2.2.2.2.2.2.1), LW.map (h := cnv_Tomb) cnv_Tomb_W (h.2.2.2.2.2.2.2.2.2.2.2.2.2.1), h.2.2.2.2.2.2.2.2.2.2.2.2.2.2.1, LW.map (h := cnv_Session) cnv_Session_W (h.2.2.2.2.2.2.2.2.2.2.2.2.2.2.2.1), LW.map (h := cnv_Last) cnv_Last_W (h.2.2.2.2.2.2.2.2.2.2.2.2.2.2.2.2.1), h.2.2.2.2.2.2.2.2.2.2.2.2.2.2.2.2.2.1, h.2.2.2.2.2.2.2.2.2.2.2.2.2.2.2.2.2.2.1, LW.map (h := cnv_watch) cnv_watch_W (h.2.2.2.2.2.2.2.2.2.2.2.2.2.2.2.2.2.2.2)⟩
theorem cnv_seat_z (x : V) : z_seat (cnv_seat x) = z_seat x := by
  simp only [z_seat, show gl (cnv_seat x) 3 = (gl x 3).map cnv_Item from rfl, show gl (cnv_seat x) 8 = (gl x 8).map cnv_bool from rfl, show gl (cnv_seat x) 9 = (gl x 9).map cnv_int from rfl, show gl (cnv_seat x) 10 = (gl x 10).map cnv_int from rfl, show gl (cnv_seat x) 12 = (gl x 12).map cnv_Row from rfl, show gl (cnv_seat x) 13 = (gl x 13).map cnv_Tomb from rfl, show gl (cnv_seat x) 15 = (gl x 15).map cnv_Session from rfl, show gl (cnv_seat x) 16 = (gl x 16).map cnv_Last from rfl, show gl (cnv_seat x) 19 = (gl x 19).map cnv_watch from rfl, zS_map (h := cnv_Item) cnv_Item_z (gl x 3), zS_map (h := cnv_bool) cnv_bool_z (gl x 8), zS_map (h := cnv_int) cnv_int_z (gl x 9), zS_map (h := cnv_int) cnv_int_z (gl x 10), zS_map (h := cnv_Row) cnv_Row_z (gl x 12), zS_map (h := cnv_Tomb) cnv_Tomb_z (gl x 13), zS_map (h := cnv_Session) cnv_Session_z (gl x 15), zS_map (h := cnv_Last) cnv_Last_z (gl x 16), zS_map (h := cnv_watch) cnv_watch_z (gl x 19)]
theorem cnv_seat_c (x : V) : c_seat (cnv_seat x) = c_seat x := by
  simp only [c_seat, show gl (cnv_seat x) 3 = (gl x 3).map cnv_Item from rfl, show gl (cnv_seat x) 8 = (gl x 8).map cnv_bool from rfl, show gl (cnv_seat x) 9 = (gl x 9).map cnv_int from rfl, show gl (cnv_seat x) 10 = (gl x 10).map cnv_int from rfl, show gl (cnv_seat x) 12 = (gl x 12).map cnv_Row from rfl, show gl (cnv_seat x) 13 = (gl x 13).map cnv_Tomb from rfl, show gl (cnv_seat x) 15 = (gl x 15).map cnv_Session from rfl, show gl (cnv_seat x) 16 = (gl x 16).map cnv_Last from rfl, show gl (cnv_seat x) 19 = (gl x 19).map cnv_watch from rfl, sumL_map (h := cnv_Item) cnv_Item_c (gl x 3), sumL_map (h := cnv_bool) cnv_bool_c (gl x 8), sumL_map (h := cnv_int) cnv_int_c (gl x 9), sumL_map (h := cnv_int) cnv_int_c (gl x 10), sumL_map (h := cnv_Row) cnv_Row_c (gl x 12), sumL_map (h := cnv_Tomb) cnv_Tomb_c (gl x 13), sumL_map (h := cnv_Session) cnv_Session_c (gl x 15), sumL_map (h := cnv_Last) cnv_Last_c (gl x 16), sumL_map (h := cnv_watch) cnv_watch_c (gl x 19)]
theorem cnv_seat_ct (x : V) : ct_seat (cnv_seat x) = ct_seat x := by
  simp only [ct_seat, show gl (cnv_seat x) 3 = (gl x 3).map cnv_Item from rfl, show gl (cnv_seat x) 8 = (gl x 8).map cnv_bool from rfl, show gl (cnv_seat x) 9 = (gl x 9).map cnv_int from rfl, show gl (cnv_seat x) 10 = (gl x 10).map cnv_int from rfl, show gl (cnv_seat x) 12 = (gl x 12).map cnv_Row from rfl, show gl (cnv_seat x) 13 = (gl x 13).map cnv_Tomb from rfl, show gl (cnv_seat x) 15 = (gl x 15).map cnv_Session from rfl, show gl (cnv_seat x) 16 = (gl x 16).map cnv_Last from rfl, show gl (cnv_seat x) 19 = (gl x 19).map cnv_watch from rfl, sumL_map (h := cnv_Item) cnv_Item_c (gl x 3), sumL_map (h := cnv_bool) cnv_bool_c (gl x 8), sumL_map (h := cnv_int) cnv_int_c (gl x 9), sumL_map (h := cnv_int) cnv_int_c (gl x 10), sumL_map (h := cnv_Row) cnv_Row_c (gl x 12), sumL_map (h := cnv_Tomb) cnv_Tomb_c (gl x 13), sumL_map (h := cnv_Session) cnv_Session_c (gl x 15), sumL_map (h := cnv_Last) cnv_Last_c (gl x 16), sumL_map (h := cnv_watch) cnv_watch_c (gl x 19)]
theorem c_seat_cz (x : V) : c_seat x ≤ 11 * (1 + z_seat x) := by
  have h0 : sumL c_Item (gl x 3) ≤ 5 * zS z_Item (gl x 3) := sumL_mul 5 fun y _ => c_Item_cz y
  have h1 : sumL c1 (gl x 8) ≤ 1 * zS z0 (gl x 8) := by rw [sumL_c1, zS_z0]; omega
  have h2 : sumL c1 (gl x 9) ≤ 1 * zS z0 (gl x 9) := by rw [sumL_c1, zS_z0]; omega
  have h3 : sumL c1 (gl x 10) ≤ 1 * zS z0 (gl x 10) := by rw [sumL_c1, zS_z0]; omega
  have h4 : sumL c_Row (gl x 12) ≤ 2 * zS z_Row (gl x 12) := sumL_mul 2 fun y _ => c_Row_cz y
  have h5 : sumL c_Tomb (gl x 13) ≤ 1 * zS z_Tomb (gl x 13) := sumL_mul 1 fun y _ => c_Tomb_cz y
  have h6 : sumL c_Session (gl x 15) ≤ 2 * zS z_Session (gl x 15) := sumL_mul 2 fun y _ => c_Session_cz y
  have h7 : sumL c_Last (gl x 16) ≤ 4 * zS z_Last (gl x 16) := sumL_mul 4 fun y _ => c_Last_cz y
  have h8 : sumL c_watch (gl x 19) ≤ 1 * zS z_watch (gl x 19) := sumL_mul 1 fun y _ => c_watch_cz y
  simp only [c_seat, z_seat]; omega
theorem ct_seat_cz (x : V) : ct_seat x ≤ 11 * z_seat x := by
  have h0 : sumL c_Item (gl x 3) ≤ 5 * zS z_Item (gl x 3) := sumL_mul 5 fun y _ => c_Item_cz y
  have h1 : sumL c1 (gl x 8) ≤ 1 * zS z0 (gl x 8) := by rw [sumL_c1, zS_z0]; omega
  have h2 : sumL c1 (gl x 9) ≤ 1 * zS z0 (gl x 9) := by rw [sumL_c1, zS_z0]; omega
  have h3 : sumL c1 (gl x 10) ≤ 1 * zS z0 (gl x 10) := by rw [sumL_c1, zS_z0]; omega
  have h4 : sumL c_Row (gl x 12) ≤ 2 * zS z_Row (gl x 12) := sumL_mul 2 fun y _ => c_Row_cz y
  have h5 : sumL c_Tomb (gl x 13) ≤ 1 * zS z_Tomb (gl x 13) := sumL_mul 1 fun y _ => c_Tomb_cz y
  have h6 : sumL c_Session (gl x 15) ≤ 2 * zS z_Session (gl x 15) := sumL_mul 2 fun y _ => c_Session_cz y
  have h7 : sumL c_Last (gl x 16) ≤ 4 * zS z_Last (gl x 16) := sumL_mul 4 fun y _ => c_Last_cz y
  have h8 : sumL c_watch (gl x 19) ≤ 1 * zS z_watch (gl x 19) := sumL_mul 1 fun y _ => c_watch_cz y
  simp only [ct_seat, z_seat]; omega
def W_packet (x : V) : Prop := I64 (gi x 0) ∧ I64 (gi x 1) ∧ I64 (gi x 2) ∧ I64 (gi x 3) ∧ I64 (gi x 4) ∧ I64 (gi x 5) ∧ I64 (gi x 6) ∧ LW W_Item (gl x 7) ∧ I64 (gi x 8) ∧ True ∧ I64 (gi x 10) ∧ I64 (gi x 11) ∧ I64 (gi x 12) ∧ I64 (gi x 13) ∧ LW W_byte (gl x 14) ∧ LW W_byte (gl x 15) ∧ I64 (gi x 16) ∧ I64 (gi x 17) ∧ I64 (gi x 18) ∧ I64 (gi x 19) ∧ I64 (gi x 20)
def z_packet (x : V) : Nat := zS z_Item (gl x 7) + zS z0 (gl x 14) + zS z0 (gl x 15)
def c_packet (x : V) : Nat := 1 + 1 + 1 + 1 + 1 + 1 + 1 + sumL c_Item (gl x 7) + 1 + 1 + 1 + 1 + 1 + 1 + sumL c1 (gl x 14) + sumL c1 (gl x 15) + 1 + 1 + 1 + 1 + 1
def ct_packet (x : V) : Nat := sumL c_Item (gl x 7) + sumL c1 (gl x 14) + sumL c1 (gl x 15)
def M_packet (x : V) (k : Int) : Prop := gi x 0 = k ∧ gi x 1 = k + 1 ∧ gi x 2 = k + 1 + 1 ∧ gi x 3 = k + 1 + 1 + 1 ∧ gi x 4 = k + 1 + 1 + 1 + 1 ∧ gi x 5 = k + 1 + 1 + 1 + 1 + 1 ∧ gi x 6 = k + 1 + 1 + 1 + 1 + 1 + 1 ∧ MS c_Item M_Item (gl x 7) (k + 1 + 1 + 1 + 1 + 1 + 1 + 1) ∧ gi x 8 = k + 1 + 1 + 1 + 1 + 1 + 1 + 1 + ((sumL c_Item (gl x 7) : Nat) : Int) ∧ gb x 9 = decide ((k + 1 + 1 + 1 + 1 + 1 + 1 + 1 + ((sumL c_Item (gl x 7) : Nat) : Int) + 1).tmod 3 = 0) ∧ gi x 10 = k + 1 + 1 + 1 + 1 + 1 + 1 + 1 + ((sumL c_Item (gl x 7) : Nat) : Int) + 1 + 1 ∧ gi x 11 = k + 1 + 1 + 1 + 1 + 1 + 1 + 1 + ((sumL c_Item (gl x 7) : Nat) : Int) + 1 + 1 + 1 ∧ gi x 12 = k + 1 + 1 + 1 + 1 + 1 + 1 + 1 + ((sumL c_Item (gl x 7) : Nat) : Int) + 1 + 1 + 1 + 1 ∧ gi x 13 = k + 1 + 1 + 1 + 1 + 1 + 1 + 1 + ((sumL c_Item (gl x 7) : Nat) : Int) + 1 + 1 + 1 + 1 + 1 ∧ MS c1 M_byte (gl x 14) (k + 1 + 1 + 1 + 1 + 1 + 1 + 1 + ((sumL c_Item (gl x 7) : Nat) : Int) + 1 + 1 + 1 + 1 + 1 + 1) ∧ MS c1 M_byte (gl x 15) (k + 1 + 1 + 1 + 1 + 1 + 1 + 1 + ((sumL c_Item (gl x 7) : Nat) : Int) + 1 + 1 + 1 + 1 + 1 + 1 + ((sumL c1 (gl x 14) : Nat) : Int)) ∧ gi x 16 = k + 1 + 1 + 1 + 1 + 1 + 1 + 1 + ((sumL c_Item (gl x 7) : Nat) : Int) + 1 + 1 + 1 + 1 + 1 + 1 + ((sumL c1 (gl x 14) : Nat) : Int) + ((sumL c1 (gl x 15) : Nat) : Int) ∧ gi x 17 = k + 1 + 1 + 1 + 1 + 1 + 1 + 1 + ((sumL c_Item (gl x 7) : Nat) : Int) + 1 + 1 + 1 + 1 + 1 + 1 + ((sumL c1 (gl x 14) : Nat) : Int) + ((sumL c1 (gl x 15) : Nat) : Int) + 1 ∧ gi x 18 = k + 1 + 1 + 1 + 1 + 1 + 1 + 1 + ((sumL c_Item (gl x 7) : Nat) : Int) + 1 + 1 + 1 + 1 + 1 + 1 + ((sumL c1 (gl x 14) : Nat) : Int) + ((sumL c1 (gl x 15) : Nat) : Int) + 1 + 1 ∧ gi x 19 = k + 1 + 1 + 1 + 1 + 1 + 1 + 1 + ((sumL c_Item (gl x 7) : Nat) : Int) + 1 + 1 + 1 + 1 + 1 + 1 + ((sumL c1 (gl x 14) : Nat) : Int) + ((sumL c1 (gl x 15) : Nat) : Int) + 1 + 1 + 1 ∧ gi x 20 = k + 1 + 1 + 1 + 1 + 1 + 1 + 1 + ((sumL c_Item (gl x 7) : Nat) : Int) + 1 + 1 + 1 + 1 + 1 + 1 + ((sumL c1 (gl x 14) : Nat) : Int) + ((sumL c1 (gl x 15) : Nat) : Int) + 1 + 1 + 1 + 1
def cnv_packet (x : V) : V := V.agg [(V.int .i64 (gi x 0)), (V.int .i64 (gi x 1)), (V.int .i64 (gi x 2)), (V.int .i64 (gi x 3)), (V.int .i64 (gi x 4)), (V.int .i64 (gi x 5)), (V.int .i64 (gi x 6)), V.inl t_impl_Item ((gl x 7).map cnv_Item), (V.int .i64 (gi x 8)), (V.bool (gb x 9)), (V.int .i64 (gi x 10)), (V.int .i64 (gi x 11)), (V.int .i64 (gi x 12)), (V.int .i64 (gi x 13)), V.inl t_byte ((gl x 14).map cnv_byte), V.inl t_byte ((gl x 15).map cnv_byte), (V.int .i64 (gi x 16)), (V.int .i64 (gi x 17)), (V.int .i64 (gi x 18)), (V.int .i64 (gi x 19)), (V.int .i64 (gi x 20))]
theorem cnv_packet_W (x : V) (h : W_packet x) : W_packet (cnv_packet x) := ⟨h.1, h.2.1, h.2.2.1, h.2.2.2.1, h.2.2.2.2.1, h.2.2.2.2.2.1, h.2.2.2.2.2.2.1, LW.map (h := cnv_Item) cnv_Item_W (h.2.2.2.2.2.2.2.1), h.2.2.2.2.2.2.2.2.1, h.2.2.2.2.2.2.2.2.2.1, h.2.2.2.2.2.2.2.2.2.2.1, h.2.2.2.2.2.2.2.2.2.2.2.1, h.2.2.2.2.2.2.2.2.2.2.2.2.1, h.2.2.2.2.2.2.2.2.2.2.2.2.2.1, LW.map (h := cnv_byte) cnv_byte_W (h.2.2.2.2.2.2.2.2.2.2.2.2.2.2.1), LW.map (h := cnv_byte) cnv_byte_W (h.2.2.2.2.2.2.2.2.2.2.2.2.2.2.2.1), h.2.2.2.2.2.2.2.2.2.2.2.2.2.2.2.2.1, h.2.2.2.2.2.2.2.2.2.2.2.2.2.2.2.2.2.1, h.2.2.2.2.2.2.2.2.2.2.2.2.2.2.2.2.2.2.1, h.2.2.2.2.2.2.2.2.2.2.2.2.2.2.2.2.2.2.2.1, h.2.2.2.2.2.2.2.2.2.2.2.2.2.2.2.2.2.2.2.2⟩
theorem cnv_packet_z (x : V) : z_packet (cnv_packet x) = z_packet x := by
  simp only [z_packet, show gl (cnv_packet x) 7 = (gl x 7).map cnv_Item from rfl, show gl (cnv_packet x) 14 = (gl x 14).map cnv_byte from rfl, show gl (cnv_packet x) 15 = (gl x 15).map cnv_byte from rfl, zS_map (h := cnv_Item) cnv_Item_z (gl x 7), zS_map (h := cnv_byte) cnv_byte_z (gl x 14), zS_map (h := cnv_byte) cnv_byte_z (gl x 15)]
theorem cnv_packet_c (x : V) : c_packet (cnv_packet x) = c_packet x := by
  simp only [c_packet, show gl (cnv_packet x) 7 = (gl x 7).map cnv_Item from rfl, show gl (cnv_packet x) 14 = (gl x 14).map cnv_byte from rfl, show gl (cnv_packet x) 15 = (gl x 15).map cnv_byte from rfl, sumL_map (h := cnv_Item) cnv_Item_c (gl x 7), sumL_map (h := cnv_byte) cnv_byte_c (gl x 14), sumL_map (h := cnv_byte) cnv_byte_c (gl x 15)]
theorem cnv_packet_ct (x : V) : ct_packet (cnv_packet x) = ct_packet x := by
  simp only [ct_packet, show gl (cnv_packet x) 7 = (gl x 7).map cnv_Item from rfl, show gl (cnv_packet x) 14 = (gl x 14).map cnv_byte from rfl, show gl (cnv_packet x) 15 = (gl x 15).map cnv_byte from rfl, sumL_map (h := cnv_Item) cnv_Item_c (gl x 7), sumL_map (h := cnv_byte) cnv_byte_c (gl x 14), sumL_map (h := cnv_byte) cnv_byte_c (gl x 15)]
theorem c_packet_cz (x : V) : c_packet x ≤ 18 * (1 + z_packet x) := by
  have h0 : sumL c_Item (gl x 7) ≤ 5 * zS z_Item (gl x 7) := sumL_mul 5 fun y _ => c_Item_cz y
  have h1 : sumL c1 (gl x 14) ≤ 1 * zS z0 (gl x 14) := by rw [sumL_c1, zS_z0]; omega
  have h2 : sumL c1 (gl x 15) ≤ 1 * zS z0 (gl x 15) := by rw [sumL_c1, zS_z0]; omega
  simp only [c_packet, z_packet]; omega
theorem ct_packet_cz (x : V) : ct_packet x ≤ 18 * z_packet x := by
  have h0 : sumL c_Item (gl x 7) ≤ 5 * zS z_Item (gl x 7) := sumL_mul 5 fun y _ => c_Item_cz y
  have h1 : sumL c1 (gl x 14) ≤ 1 * zS z0 (gl x 14) := by rw [sumL_c1, zS_z0]; omega
  have h2 : sumL c1 (gl x 15) ≤ 1 * zS z0 (gl x 15) := by rw [sumL_c1, zS_z0]; omega
  simp only [ct_packet, z_packet]; omega
end Go.Eng.R
open Go Go.Eng
namespace Go.Eng.R
def Ok {α : Type} (P : α → Prop) (o : Option α) : Prop := ∃ x, o = some x ∧ P x
theorem Ok.bind {α β : Type} {P : β → Prop} {Q : α → Prop} {o : Option α} {f : α → Option β} (h : Ok Q o) (g : ∀ x, Q x → Ok P (f x)) : Ok P (Option.bind o f) := by
  obtain ⟨x, rfl, hx⟩ := h
  exact g x hx
theorem Ok.ret {α : Type} {P : α → Prop} {x : α} (h : P x) : Ok P (some x) := ⟨x, rfl, h⟩
theorem Ok.chk {α : Type} {P : α → Prop} {b : Bool} {x : Option α} (h : b = true) (g : Ok P x) : Ok P (bif b then x else none) := by subst h; exact g
theorem Ok.ite {α : Type} {P : α → Prop} {b : Bool} {x y : Option α} (g1 : b = true → Ok P x) (g2 : b = false → Ok P y) : Ok P (bif b then x else y) := by
  cases b with
  | true => exact g1 rfl
  | false => exact g2 rfl
theorem Ok.iteT {α : Type} {P : α → Prop} {b : Bool} {x y : Option α} (h : b = true) (g : Ok P x) : Ok P (bif b then x else y) := by subst h; exact g
theorem Ok.iteF {α : Type} {P : α → Prop} {b : Bool} {x y : Option α} (h : b = false) (g : Ok P y) : Ok P (bif b then x else y) := by subst h; exact g
theorem Ok.mono {α : Type} {P Q : α → Prop} {o : Option α} (h : Ok P o) (g : ∀ x, P x → Q x) : Ok Q o := by
  obtain ⟨x, e, hx⟩ := h
  exact ⟨x, e, g x hx⟩
def Ok2 {α β : Type} (P : α → β → Prop) (o : Option (α × β)) : Prop := ∃ x y, o = some (x, y) ∧ P x y
theorem Ok.bind2 {α β γ : Type} {P : γ → Prop} {Q : α → β → Prop} {o : Option (α × β)} {f : α × β → Option γ} (h : Ok2 Q o) (g : ∀ x y, Q x y → Ok P (f (x, y))) : Ok P (Option.bind o f) := by
  obtain ⟨x, y, rfl, hx⟩ := h
  exact g x y hx
theorem Ok2.of {α β : Type} {Q : α → β → Prop} {o : Option (α × β)} (h : Ok (fun r => Q r.1 r.2) o) : Ok2 Q o := by
  obtain ⟨⟨x, y⟩, e, hx⟩ := h
  exact ⟨x, y, e, hx⟩
theorem Ok2.ok {α β : Type} {Q : α → β → Prop} {o : Option (α × β)} (h : Ok2 Q o) : Ok (fun r => Q r.1 r.2) o := by
  obtain ⟨x, y, e, hx⟩ := h
  exact ⟨(x, y), e, hx⟩
theorem wrI (n : Int) : I64 (IntKind.i64.wrap n) := by unfold I64; rw [IntKind.wrap_i64]; omega
theorem I64.of {n : Int} (h : 0 ≤ n) (h1 : n ≤ 4294967296) : I64 n := ⟨by omega, by omega⟩
theorem LW.snoc {W : V → Prop} {l : List V} {x : V} (h : LW W l) (hl : l.length < 9223372036854775807) (hx : W x) : LW W (l ++ [x]) := by
  refine ⟨by simp; omega, fun y hy => ?_⟩
  rcases List.mem_append.1 hy with hy | hy
  · exact h.2 y hy
  · simp at hy; subst hy; exact hx
theorem LW.set' {W : V → Prop} {l : List V} {x : V} (h : LW W l) (j : Nat) (hx : W x) : LW W (l.set j x) := by
  refine ⟨by simpa using h.1, fun y hy => ?_⟩
  rcases List.mem_or_eq_of_mem_set hy with hy | hy
  · exact h.2 y hy
  · subst hy; exact hx
theorem LW.rep {W : V → Prop} {n : Nat} {x : V} (hn : n ≤ 9223372036854775807) (hx : W x) : LW W (List.replicate n x) :=
  ⟨by simpa using hn, fun y hy => by rw [List.mem_replicate] at hy; rw [hy.2]; exact hx⟩
theorem idx_of {i : Int} {n : Nat} (h0 : 0 ≤ i) (h1 : i < (n : Int)) : idxOk i n = true := by simp [idxOk]; omega
theorem room_of {n b : Nat} (h : n * b ≤ 140737488355328) (h1 : n ≤ 9223372036854775807) : (roomy n b && true) = true := by rw [roomy_of h h1]; rfl
def allI : List V → Prop
  | [] => True
  | x :: l => I64 (gi x 0) ∧ allI l
theorem allI_rd : ∀ {l : List V}, allI l → ∀ j, j < l.length → I64 (gi (rd l j) 0)
  | [], _, j, h => by simp at h
  | x :: l, ⟨h, _⟩, 0, _ => h
  | x :: l, ⟨_, h⟩, j + 1, hj => allI_rd h j (by simpa using hj)
theorem gi_v0 (k : IntKind) (n : Int) : gi (V.int k n) 0 = n := rfl
theorem LW.takeL {W : V → Prop} {l : List V} (h : LW W l) (n : Nat) : LW W (l.take n) := ⟨by have := h.1; rw [List.length_take]; omega, fun x hx => h.2 x (List.mem_of_mem_take hx)⟩
theorem LW.dropL {W : V → Prop} {l : List V} (h : LW W l) (n : Nat) : LW W (l.drop n) := ⟨by have := h.1; rw [List.length_drop]; omega, fun x hx => h.2 x (List.mem_of_mem_drop hx)⟩
theorem W_int.mk {n : Int} (h : I64 n) : W_int (V.int .i64 n) := h
end Go.Eng.R
open Go Go.Eng
namespace Go.Eng.R
theorem bAnd_le (a : Int) {b : Int} (h0 : 0 ≤ b) (h1 : b ≤ 9223372036854775807) : 0 ≤ bAnd .i64 a b ∧ bAnd .i64 a b ≤ b := by
  unfold bAnd
  have e : (BitVec.ofInt (IntKind.bits .i64) b).toNat = b.toNat := by
    rw [BitVec.toNat_ofInt]
    rw [Int.emod_eq_of_lt h0 (by show b < ((2 ^ 64 : Nat) : Int); omega)]
  have h : (BitVec.ofInt (IntKind.bits .i64) a &&& BitVec.ofInt (IntKind.bits .i64) b).toNat ≤ b.toNat := by
    rw [BitVec.toNat_and, e]
    exact Nat.and_le_right
  rw [wr64' (by omega) (by omega)]
  omega
def CurOk (c : V) : Prop := LW W_byte (gl c 0) ∧ 0 ≤ gi c 1 ∧ gi c 1 ≤ (((gl c 0).length : Nat) : Int)
theorem byte_ok {c : V} (h : CurOk c) : ∃ x c', spec_l1Byte (n_spec_l1Cur c) = some (x, c') ∧ CurOk c' ∧ 0 ≤ x ∧ x ≤ 255 ∧ gl c' 0 = gl c 0 := by
  obtain ⟨h1, h2, h3⟩ := h
  have hl := h1.1
  unfold spec_l1Byte
  simp only [show gl (n_spec_l1Cur c) 0 = gl c 0 from rfl, show gi (n_spec_l1Cur c) 1 = gi c 1 from rfl]
  by_cases hc : gi c 1 < (((gl c 0).length : Nat) : Int)
  · rw [decide_eq_true hc, show idxOk (gi c 1) (gl c 0).length = true from by simp [idxOk]; omega]
    simp only [cond_true]
    refine ⟨_, _, rfl, ⟨h1, ?_, ?_⟩, (bAnd_le _ (by decide) (by decide)).1, (bAnd_le _ (by decide) (by decide)).2, rfl⟩
    · show 0 ≤ IntKind.i64.wrap (gi c 1 + 1)
      rw [wr64' (by omega) (by omega)]; omega
    · show IntKind.i64.wrap (gi c 1 + 1) ≤ _
      rw [wr64' (by omega) (by omega)]; show gi c 1 + 1 ≤ (((gl c 0).length : Nat) : Int); omega
  · rw [decide_eq_false hc]
    simp only [cond_false]
    exact ⟨_, _, rfl, ⟨h1, h2, h3⟩, (bAnd_le _ (by decide) (by decide)).1, (bAnd_le _ (by decide) (by decide)).2, rfl⟩
theorem tmod_lt {x n : Int} (hx : 0 ≤ x) (hn : 0 < n) : 0 ≤ x.tmod n ∧ x.tmod n < n := by
  rw [Int.tmod_eq_emod_of_nonneg hx]
  exact ⟨Int.emod_nonneg _ (by omega), Int.emod_lt_of_pos _ hn⟩
theorem below_ok {c : V} (h : CurOk c) {n : Int} (hn : 0 < n) : ∃ x c', spec_l1Below (n_spec_l1Cur c) n = some (x, c') ∧ CurOk c' ∧ 0 ≤ x ∧ x < n := by
  unfold spec_l1Below
  rw [decide_eq_false (p := n ≤ 0) (by omega), decide_eq_false (p := n = 0) (by omega)]
  simp only [cond_false, show n_spec_l1Cur (n_spec_l1Cur c) = n_spec_l1Cur c from rfl]
  obtain ⟨x, c', e, h', x0, x1, -⟩ := byte_ok h
  by_cases h2 : n ≤ 256
  · rw [decide_eq_true h2, e]
    exact ⟨_, _, rfl, h', (tmod_lt x0 hn).1, (tmod_lt x0 hn).2⟩
  · rw [decide_eq_false h2, e]
    obtain ⟨x2, c2, e2, h2', y0, y1, -⟩ := byte_ok h'
    obtain ⟨x3, c3, e3, h3', z0', z1, -⟩ := byte_ok h2'
    obtain ⟨x4, c4, e4, h4', w0, w1, -⟩ := byte_ok h3'
    simp only [Option.bind_some, e2, e3, e4, cond_false, Bool.not_false, cond_true]
    have hs : IntKind.i64.wrap (IntKind.i64.wrap (IntKind.i64.wrap (IntKind.i64.wrap (x * 16777216) + IntKind.i64.wrap (x2 * 65536)) + IntKind.i64.wrap (x3 * 256)) + x4) = x * 16777216 + x2 * 65536 + x3 * 256 + x4 := by
      rw [wr64' (n := x * 16777216) (by omega) (by omega), wr64' (n := x2 * 65536) (by omega) (by omega), wr64' (n := x3 * 256) (by omega) (by omega), wr64' (n := x * 16777216 + x2 * 65536) (by omega) (by omega), wr64' (n := x * 16777216 + x2 * 65536 + x3 * 256) (by omega) (by omega), wr64' (by omega) (by omega)]
    rw [hs]
    have hm := tmod_lt (x := x * 16777216 + x2 * 65536 + x3 * 256 + x4) (by omega) hn
    exact ⟨_, _, rfl, h4', hm.1, hm.2⟩
theorem once_ok {c : V} (h : CurOk c) {n : Int} (hn : 0 < n) : ∃ b c', spec_l1Once (n_spec_l1Cur c) n = some (b, c') ∧ CurOk c' := by
  obtain ⟨x, c', e, h', -, -⟩ := below_ok h hn
  unfold spec_l1Once
  rw [show n_spec_l1Cur (n_spec_l1Cur c) = n_spec_l1Cur c from rfl, e]
  exact ⟨_, _, rfl, h'⟩
theorem pick_ok {c : V} (h : CurOk c) {l : List V} (hl : 0 < l.length) : ∃ j c', spec_l1PickInt (n_spec_l1Cur c) l = some (gi (rd l j) 0, c') ∧ CurOk c' ∧ j < l.length := by
  obtain ⟨x, c', e, h', x0, x1⟩ := below_ok h (n := ((l.length : Nat) : Int)) (by omega)
  unfold spec_l1PickInt
  rw [show n_spec_l1Cur (n_spec_l1Cur c) = n_spec_l1Cur c from rfl, e]
  simp only [Option.bind_some]
  rw [show idxOk x l.length = true from by simp [idxOk]; omega]
  exact ⟨x.toNat, _, rfl, h', by omega⟩
theorem new_ok {code : List V} (h : LW W_byte code) : ∃ c, spec_l1New code = some c ∧ CurOk c := by
  unfold spec_l1New
  rw [fuel_eq]
  have key := loop_run0 (F := fun m s i => spec_l1New_l3 m code s i) (n := code.length) (I := fun _ _ => True) (Q := fun r => ∃ s, r = some (code, s)) ?_ ?_ (s := IntKind.i64.wrap (36565 + ((code.length : Nat) : Int))) trivial
  · obtain ⟨s, e⟩ := key
    refine ⟨_, congrArg (fun o => Option.bind o _) e, h, by show (0 : Int) ≤ 0; decide, by show (0 : Int) ≤ ((code.length : Nat) : Int); omega⟩
  · intro m i s hi _
    simp only [spec_l1New_l3, lt_nat hi, idxOk_nat hi, cond_true, wr_succ hi h.1]
    by_cases h4 : (i : Int) < 4000
    · rw [decide_eq_true h4]; exact .inl ⟨_, rfl, trivial⟩
    · rw [decide_eq_false h4]; exact .inr ⟨_, rfl⟩
  · intro m s _
    simp only [spec_l1New_l3, lt_self, cond_false]
    exact ⟨_, rfl⟩
theorem byte_O {c : V} (h : CurOk c) : Ok (fun r => CurOk r.2 ∧ 0 ≤ r.1 ∧ r.1 ≤ 255) (spec_l1Byte (n_spec_l1Cur c)) := by
  obtain ⟨x, c', e, h1, h2, h3, -⟩ := byte_ok h
  exact ⟨_, e, h1, h2, h3⟩
theorem tmod_O {x n : Int} (h0 : 0 ≤ x) (h1 : 0 < n) : 0 ≤ x.tmod n ∧ x.tmod n ≤ x ∧ x.tmod n < n := by
  have := tmod_lt h0 h1
  refine ⟨this.1, ?_, this.2⟩
  rw [Int.tmod_eq_emod_of_nonneg h0]
  have h2 := Int.mul_ediv_add_emod x n
  have h3 : 0 ≤ n * (x / n) := Int.mul_nonneg (by omega) (Int.ediv_nonneg h0 (by omega))
  omega
theorem below_O {c : V} (h : CurOk c) (n : Int) : Ok (fun r => CurOk r.2 ∧ 0 ≤ r.1 ∧ r.1 ≤ 4294967295 ∧ (r.1 < n ∨ r.1 = 0)) (spec_l1Below (n_spec_l1Cur c) n) := by
  by_cases hn : 0 < n
  · unfold spec_l1Below
    rw [decide_eq_false (p := n ≤ 0) (by omega), decide_eq_false (p := n = 0) (by omega)]
    simp only [cond_false, show n_spec_l1Cur (n_spec_l1Cur c) = n_spec_l1Cur c from rfl]
    obtain ⟨x, c', e, h', x0, x1, -⟩ := byte_ok h
    by_cases h2 : n ≤ 256
    · rw [decide_eq_true h2, e]
      obtain ⟨m0, m1, m2⟩ := tmod_O x0 hn
      exact ⟨_, rfl, h', m0, by show x.tmod n ≤ _; omega, .inl m2⟩
    · rw [decide_eq_false h2, e]
      obtain ⟨x2, c2, e2, h2', y0, y1, -⟩ := byte_ok h'
      obtain ⟨x3, c3, e3, h3', z0', z1, -⟩ := byte_ok h2'
      obtain ⟨x4, c4, e4, h4', w0, w1, -⟩ := byte_ok h3'
      simp only [Option.bind_some, e2, e3, e4, cond_false, Bool.not_false, cond_true]
      have hs : IntKind.i64.wrap (IntKind.i64.wrap (IntKind.i64.wrap (IntKind.i64.wrap (x * 16777216) + IntKind.i64.wrap (x2 * 65536)) + IntKind.i64.wrap (x3 * 256)) + x4) = x * 16777216 + x2 * 65536 + x3 * 256 + x4 := by
        rw [wr64' (n := x * 16777216) (by omega) (by omega), wr64' (n := x2 * 65536) (by omega) (by omega), wr64' (n := x3 * 256) (by omega) (by omega), wr64' (n := x * 16777216 + x2 * 65536) (by omega) (by omega), wr64' (n := x * 16777216 + x2 * 65536 + x3 * 256) (by omega) (by omega), wr64' (by omega) (by omega)]
      rw [hs]
      obtain ⟨m0, m1, m2⟩ := tmod_O (x := x * 16777216 + x2 * 65536 + x3 * 256 + x4) (by omega) hn
      exact ⟨_, rfl, h4', m0, by show Int.tmod _ n ≤ _; omega, .inl m2⟩
  · unfold spec_l1Below
    rw [decide_eq_true (p := n ≤ 0) (by omega)]
    exact ⟨_, rfl, h, by show (0 : Int) ≤ 0; omega, by show (0 : Int) ≤ 4294967295; omega, .inr rfl⟩
theorem once_O {c : V} (h : CurOk c) (n : Int) : Ok (fun r => CurOk r.2) (spec_l1Once (n_spec_l1Cur c) n) := by
  obtain ⟨x, e, h', -⟩ := below_O h n
  unfold spec_l1Once
  rw [show n_spec_l1Cur (n_spec_l1Cur c) = n_spec_l1Cur c from rfl, e]
  exact ⟨_, rfl, h'⟩
theorem pick_O {c : V} (h : CurOk c) {l : List V} (hl : 0 < l.length) (ha : allI l) : Ok (fun r => CurOk r.2 ∧ I64 r.1) (spec_l1PickInt (n_spec_l1Cur c) l) := by
  obtain ⟨j, c', e, h1, h2⟩ := pick_ok h hl
  exact ⟨_, e, h1, allI_rd ha j h2⟩
theorem new_O {code : List V} (h : LW W_byte code) : Ok CurOk (spec_l1New code) := by
  obtain ⟨c, e, h1⟩ := new_ok h
  exact ⟨_, e, h1⟩
theorem nn_cur (c : V) : n_spec_l1Cur (n_spec_l1Cur c) = n_spec_l1Cur c := rfl
theorem below_P {c : V} (h : CurOk c) (n : Int) : Ok2 (fun x c => CurOk c ∧ 0 ≤ x ∧ x ≤ 4294967295 ∧ (x < n ∨ x = 0)) (spec_l1Below (n_spec_l1Cur c) n) := .of (below_O h n)
theorem once_P {c : V} (h : CurOk c) (n : Int) : Ok2 (fun (x : Bool) c => CurOk c) (spec_l1Once (n_spec_l1Cur c) n) := .of (once_O h n)
theorem pick_P {c : V} (h : CurOk c) {l : List V} (hl : 0 < l.length) (ha : allI l) : Ok2 (fun x c => CurOk c ∧ I64 x) (spec_l1PickInt (n_spec_l1Cur c) l) := .of (pick_O h hl ha)
end Go.Eng.R
open Go Go.Eng
namespace Go.Eng.R
set_option maxRecDepth 100000
def BS (l : List V) : Prop := LW W_byte l ∧ l.length ≤ 20
def bsB (l : List V) : Bool := l.all (fun x => decide (0 ≤ gi x 0 ∧ gi x 0 ≤ 255)) && decide (l.length ≤ 20)
theorem bsB_spec {l : List V} (h : bsB l = true) : BS l := by
  unfold bsB at h
  simp only [Bool.and_eq_true, List.all_eq_true, decide_eq_true_eq] at h
  exact ⟨⟨by omega, fun x hx => h.1 x hx⟩, h.2⟩
theorem BS.nil : BS [] := bsB_spec rfl
def bsAll (l : List V) : Bool := l.all fun x => bsB (gs x 0)
theorem bsAll_rd {l : List V} (h : bsAll l = true) {j : Nat} (hj : j < l.length) : BS (gs (rd l j) 0) := by
  unfold bsAll at h
  rw [List.all_eq_true] at h
  refine bsB_spec (h _ ?_)
  rw [rd_eq hj]; exact List.getElem_mem hj
theorem drawVal_O {c : V} (h : CurOk c) : Ok2 (fun x c => CurOk c ∧ BS x) (spec_l2drawVal (n_spec_l1Cur c)) := by
  unfold spec_l2drawVal
  refine .of ?_
  have h' : CurOk (n_spec_l1Cur c) := h
  ((repeat' (((with_reducible refine (id ?_ : Ok _ _)); first | (with_reducible refine Ok.chk (by (first | (refine idx_of ?_ ?_ <;> (try simp only [List.length_set, List.length_append, List.length_cons, List.length_nil, List.length_replicate, Nat.zero_add]) <;> omega) | (refine room_of ?_ ?_ <;> (try simp only [List.length_set, List.length_append, List.length_cons, List.length_nil, List.length_replicate, Nat.zero_add]) <;> omega) | assumption | (simp; done) | (simp; omega))) ?_) | ((with_reducible refine Ok.iteT ?_ ?_); (next => first | exact decide_eq_true (by with_reducible rfl) | (refine congrArg not (decide_eq_false ?_); intro h; revert h; dsimp only; decide))) | ((with_reducible refine Ok.iteF ?_ ?_); (next => first | (refine decide_eq_false ?_; intro h; revert h; dsimp only; decide) | exact congrArg not (decide_eq_true (by with_reducible rfl)))) | (with_reducible refine Ok.ite (fun _ => ?_) (fun _ => ?_) <;> (rename_i h; try simp only [decide_eq_true_eq, decide_eq_false_iff_not, Bool.not_eq_true', Bool.not_eq_false', Int.not_lt, Int.not_le] at h)) | (first | (((with_reducible refine Ok.bind2 (pick_P (by assumption) ?_ ?_) ?_); (next => exact Nat.succ_pos _); (next => repeat' (first | trivial | ((repeat' (first | dsimp only [gi_c0, gi_cs, gl_c0, gl_cs, gi_v0] | with_reducible assumption | with_reducible exact wrI _ | (unfold I64; constructor <;> omega) | omega | (simp only [List.length_set, List.length_append, List.length_cons, List.length_nil, List.length_take, List.length_drop]; omega) | with_reducible refine LW.set' ?_ _ ?_ | with_reducible refine LW.snoc ?_ ?_ ?_ | with_reducible refine LW.takeL ?_ _ | with_reducible refine LW.dropL ?_ _ | with_reducible refine W_int.mk ?_ | assumption)); done) | refine And.intro ?_ ?_)); rintro _ _ ⟨_, _⟩)) | (((with_reducible refine Ok.bind2 (once_P (by assumption) _) ?_); rintro _ _ _)) | (((with_reducible refine Ok.bind2 (below_P (by assumption) _) ?_); rintro _ _ ⟨_, _, _, _⟩))) | with_reducible refine Ok.ret ?_))))
  exact ⟨by assumption, bsAll_rd rfl (by simp; omega)⟩
theorem drawKey_O {c : V} (h : CurOk c) : Ok2 (fun x c => CurOk c ∧ BS x) (spec_l2drawKey (n_spec_l1Cur c)) := by
  unfold spec_l2drawKey
  refine .of ?_
  have h' : CurOk (n_spec_l1Cur c) := h
  ((repeat' (((with_reducible refine (id ?_ : Ok _ _)); first | (with_reducible refine Ok.chk (by (first | (refine idx_of ?_ ?_ <;> (try simp only [List.length_set, List.length_append, List.length_cons, List.length_nil, List.length_replicate, Nat.zero_add]) <;> omega) | (refine room_of ?_ ?_ <;> (try simp only [List.length_set, List.length_append, List.length_cons, List.length_nil, List.length_replicate, Nat.zero_add]) <;> omega) | assumption | (simp; done) | (simp; omega))) ?_) | ((with_reducible refine Ok.iteT ?_ ?_); (next => first | exact decide_eq_true (by with_reducible rfl) | (refine congrArg not (decide_eq_false ?_); intro h; revert h; dsimp only; decide))) | ((with_reducible refine Ok.iteF ?_ ?_); (next => first | (refine decide_eq_false ?_; intro h; revert h; dsimp only; decide) | exact congrArg not (decide_eq_true (by with_reducible rfl)))) | (with_reducible refine Ok.ite (fun _ => ?_) (fun _ => ?_) <;> (rename_i h; try simp only [decide_eq_true_eq, decide_eq_false_iff_not, Bool.not_eq_true', Bool.not_eq_false', Int.not_lt, Int.not_le] at h)) | (first | (((with_reducible refine Ok.bind2 (pick_P (by assumption) ?_ ?_) ?_); (next => exact Nat.succ_pos _); (next => repeat' (first | trivial | ((repeat' (first | dsimp only [gi_c0, gi_cs, gl_c0, gl_cs, gi_v0] | with_reducible assumption | with_reducible exact wrI _ | (unfold I64; constructor <;> omega) | omega | (simp only [List.length_set, List.length_append, List.length_cons, List.length_nil, List.length_take, List.length_drop]; omega) | with_reducible refine LW.set' ?_ _ ?_ | with_reducible refine LW.snoc ?_ ?_ ?_ | with_reducible refine LW.takeL ?_ _ | with_reducible refine LW.dropL ?_ _ | with_reducible refine W_int.mk ?_ | assumption)); done) | refine And.intro ?_ ?_)); rintro _ _ ⟨_, _⟩)) | (((with_reducible refine Ok.bind2 (once_P (by assumption) _) ?_); rintro _ _ _)) | (((with_reducible refine Ok.bind2 (below_P (by assumption) _) ?_); rintro _ _ ⟨_, _, _, _⟩))) | with_reducible refine Ok.ret ?_))))
  exact ⟨by assumption, bsAll_rd rfl (by simp; omega)⟩
def B_Op (x : V) : Prop := I64 (gi x 0) ∧ BS (gl x 1) ∧ BS (gl x 2) ∧ I64 (gi x 3)
theorem op_O {c : V} (h : CurOk c) (i : Int) : Ok2 (fun x c => CurOk c ∧ B_Op x) (spec_l2op (n_spec_l1Cur c) i) := by
  unfold spec_l2op
  refine .of ?_
  obtain ⟨j, c', e, h1, hj⟩ := pick_ok h (l := [(V.int .i64 1), (V.int .i64 1), (V.int .i64 1), (V.int .i64 2), (V.int .i64 3), (V.int .i64 3), (V.int .i64 4), (V.int .i64 5), (V.int .i64 6), (V.int .i64 6), (V.int .i64 7), (V.int .i64 0)]) (by decide)
  have hv : gi (rd [(V.int .i64 1), (V.int .i64 1), (V.int .i64 1), (V.int .i64 2), (V.int .i64 3), (V.int .i64 3), (V.int .i64 4), (V.int .i64 5), (V.int .i64 6), (V.int .i64 6), (V.int .i64 7), (V.int .i64 0)] j) 0 ∈ [(0 : Int), 1, 2, 3, 4, 5, 6, 7] := by
    have hj' : j ∈ List.range 12 := List.mem_range.2 hj
    revert j
    intro j _ _ hj
    have key : ∀ j ∈ List.range 12, gi (rd [(V.int .i64 1), (V.int .i64 1), (V.int .i64 1), (V.int .i64 2), (V.int .i64 3), (V.int .i64 3), (V.int .i64 4), (V.int .i64 5), (V.int .i64 6), (V.int .i64 6), (V.int .i64 7), (V.int .i64 0)] j) 0 ∈ [(0 : Int), 1, 2, 3, 4, 5, 6, 7] := by decide
    exact key j hj
  rw [nn_cur, e]
  refine Ok.bind2 (Q := fun a b => a = gi (rd [(V.int .i64 1), (V.int .i64 1), (V.int .i64 1), (V.int .i64 2), (V.int .i64 3), (V.int .i64 3), (V.int .i64 4), (V.int .i64 5), (V.int .i64 6), (V.int .i64 6), (V.int .i64 7), (V.int .i64 0)] j) 0 ∧ b = c') ⟨_, _, rfl, rfl, rfl⟩ ?_
  rintro a b ⟨ha, rfl⟩
  rw [← ha] at hv
  clear ha e
  simp only [List.mem_cons, List.not_mem_nil, or_false] at hv
  rcases hv with rfl | rfl | rfl | rfl | rfl | rfl | rfl | rfl
  all_goals ((repeat' (((with_reducible refine (id ?_ : Ok _ _)); first | (with_reducible refine Ok.chk (by (first | (refine idx_of ?_ ?_ <;> (try simp only [List.length_set, List.length_append, List.length_cons, List.length_nil, List.length_replicate, Nat.zero_add]) <;> omega) | (refine room_of ?_ ?_ <;> (try simp only [List.length_set, List.length_append, List.length_cons, List.length_nil, List.length_replicate, Nat.zero_add]) <;> omega) | assumption | (simp; done) | (simp; omega))) ?_) | ((with_reducible refine Ok.iteT ?_ ?_); (next => first | exact decide_eq_true (by with_reducible rfl) | (refine congrArg not (decide_eq_false ?_); intro h; revert h; dsimp only; decide))) | ((with_reducible refine Ok.iteF ?_ ?_); (next => first | (refine decide_eq_false ?_; intro h; revert h; dsimp only; decide) | exact congrArg not (decide_eq_true (by with_reducible rfl)))) | (with_reducible refine Ok.ite (fun _ => ?_) (fun _ => ?_) <;> (rename_i h; try simp only [decide_eq_true_eq, decide_eq_false_iff_not, Bool.not_eq_true', Bool.not_eq_false', Int.not_lt, Int.not_le] at h)) | (first | (((with_reducible refine Ok.bind2 (drawKey_O (by assumption)) ?_); rintro _ _ ⟨_, _⟩)) | (((with_reducible refine Ok.bind2 (drawVal_O (by assumption)) ?_); rintro _ _ ⟨_, _⟩)) | (((with_reducible refine Ok.bind2 (pick_P (by assumption) ?_ ?_) ?_); (next => exact Nat.succ_pos _); (next => repeat' (first | trivial | ((repeat' (first | dsimp only [gi_c0, gi_cs, gl_c0, gl_cs, gi_v0] | with_reducible assumption | with_reducible exact wrI _ | (unfold I64; constructor <;> omega) | omega | (simp only [List.length_set, List.length_append, List.length_cons, List.length_nil, List.length_take, List.length_drop]; omega) | with_reducible refine LW.set' ?_ _ ?_ | with_reducible refine LW.snoc ?_ ?_ ?_ | with_reducible refine LW.takeL ?_ _ | with_reducible refine LW.dropL ?_ _ | with_reducible refine W_int.mk ?_ | assumption)); done) | refine And.intro ?_ ?_)); rintro _ _ ⟨_, _⟩)) | (((with_reducible refine Ok.bind2 (once_P (by assumption) _) ?_); rintro _ _ _)) | (((with_reducible refine Ok.bind2 (below_P (by assumption) _) ?_); rintro _ _ ⟨_, _, _, _⟩))) | with_reducible refine Ok.ret ?_))))
  all_goals (refine ⟨by assumption, ?_, ?_, ?_, ?_⟩ <;> (try dsimp only [gi_c0, gi_cs, gl_c0, gl_cs]) <;> first | with_reducible assumption | with_reducible exact wrI _ | with_reducible exact BS.nil | ((unfold I64; constructor <;> omega)) | assumption)
def B_Item (x : V) : Prop := I64 (gi x 0) ∧ I64 (gi x 1) ∧ I64 (gi x 2) ∧ I64 (gi x 3) ∧ BS (gl x 4) ∧ BS (gl x 5) ∧ I64 (gi x 6)
theorem drawItem_O {c : V} (h : CurOk c) {t : Int} (ht : I64 t) : Ok2 (fun x c => CurOk c ∧ B_Item x) (spec_l3drawItem (n_spec_l1Cur c) t) := by
  unfold spec_l3drawItem
  refine .of ?_
  have h' : CurOk (n_spec_l1Cur c) := h
  ((repeat' (((with_reducible refine (id ?_ : Ok _ _)); first | (with_reducible refine Ok.chk (by (first | (refine idx_of ?_ ?_ <;> (try simp only [List.length_set, List.length_append, List.length_cons, List.length_nil, List.length_replicate, Nat.zero_add]) <;> omega) | (refine room_of ?_ ?_ <;> (try simp only [List.length_set, List.length_append, List.length_cons, List.length_nil, List.length_replicate, Nat.zero_add]) <;> omega) | assumption | (simp; done) | (simp; omega))) ?_) | ((with_reducible refine Ok.iteT ?_ ?_); (next => first | exact decide_eq_true (by with_reducible rfl) | (refine congrArg not (decide_eq_false ?_); intro h; revert h; dsimp only; decide))) | ((with_reducible refine Ok.iteF ?_ ?_); (next => first | (refine decide_eq_false ?_; intro h; revert h; dsimp only; decide) | exact congrArg not (decide_eq_true (by with_reducible rfl)))) | (with_reducible refine Ok.ite (fun _ => ?_) (fun _ => ?_) <;> (rename_i h; try simp only [decide_eq_true_eq, decide_eq_false_iff_not, Bool.not_eq_true', Bool.not_eq_false', Int.not_lt, Int.not_le] at h)) | (first | (((with_reducible refine Ok.bind2 (op_O (by assumption) _) ?_); rintro _ _ ⟨_, _, _, _, _⟩)) | (((with_reducible refine Ok.bind2 (drawKey_O (by assumption)) ?_); rintro _ _ ⟨_, _⟩)) | (((with_reducible refine Ok.bind2 (drawVal_O (by assumption)) ?_); rintro _ _ ⟨_, _⟩)) | (((with_reducible refine Ok.bind2 (pick_P (by assumption) ?_ ?_) ?_); (next => exact Nat.succ_pos _); (next => repeat' (first | trivial | ((repeat' (first | dsimp only [gi_c0, gi_cs, gl_c0, gl_cs, gi_v0] | with_reducible assumption | with_reducible exact wrI _ | (unfold I64; constructor <;> omega) | omega | (simp only [List.length_set, List.length_append, List.length_cons, List.length_nil, List.length_take, List.length_drop]; omega) | with_reducible refine LW.set' ?_ _ ?_ | with_reducible refine LW.snoc ?_ ?_ ?_ | with_reducible refine LW.takeL ?_ _ | with_reducible refine LW.dropL ?_ _ | with_reducible refine W_int.mk ?_ | assumption)); done) | refine And.intro ?_ ?_)); rintro _ _ ⟨_, _⟩)) | (((with_reducible refine Ok.bind2 (once_P (by assumption) _) ?_); rintro _ _ _)) | (((with_reducible refine Ok.bind2 (below_P (by assumption) _) ?_); rintro _ _ ⟨_, _, _, _⟩))) | with_reducible refine Ok.ret ?_))))
  all_goals (refine ⟨by assumption, ?_, ?_, ?_, ?_, ?_, ?_, ?_⟩ <;> (try dsimp only [gi_c0, gi_cs, gl_c0, gl_cs]) <;> first | with_reducible assumption | with_reducible exact wrI _ | with_reducible exact BS.nil | ((unfold I64; constructor <;> omega)) | assumption)
theorem drawLog_O {c : V} (h : CurOk c) {n : Int} (h0 : 0 ≤ n) (h1 : n ≤ 20) : Ok2 (fun x c => CurOk c ∧ LW B_Item x ∧ x.length ≤ 20) (spec_l3drawLog (n_spec_l1Cur c) n) := by
  have key : ∀ (k : Nat) (t i : Int) (b : V) (l : List V), CurOk b → LW B_Item l → I64 t → 0 ≤ i → (l.length : Int) = i → i ≤ n → (n - i).toNat < k →
      Ok2 (fun c x => CurOk c ∧ LW B_Item x ∧ x.length ≤ 20) (spec_l3drawLog_l4 k n t i (n_spec_l1Cur b) l) := by
    intro k
    induction k with
    | zero => intros; omega
    | succ k ih =>
      intro t i b l hb hl ht hi hli hin hk
      simp only [spec_l3drawLog_l4]
      refine .of ?_
      have hb' : CurOk (n_spec_l1Cur b) := hb
      ((repeat' (((with_reducible refine (id ?_ : Ok _ _)); first | (with_reducible refine Ok.chk (by (first | (refine idx_of ?_ ?_ <;> (try simp only [List.length_set, List.length_append, List.length_cons, List.length_nil, List.length_replicate, Nat.zero_add]) <;> omega) | (refine room_of ?_ ?_ <;> (try simp only [List.length_set, List.length_append, List.length_cons, List.length_nil, List.length_replicate, Nat.zero_add]) <;> omega) | assumption | (simp; done) | (simp; omega))) ?_) | ((with_reducible refine Ok.iteT ?_ ?_); (next => first | exact decide_eq_true (by with_reducible rfl) | (refine congrArg not (decide_eq_false ?_); intro h; revert h; dsimp only; decide))) | ((with_reducible refine Ok.iteF ?_ ?_); (next => first | (refine decide_eq_false ?_; intro h; revert h; dsimp only; decide) | exact congrArg not (decide_eq_true (by with_reducible rfl)))) | (with_reducible refine Ok.ite (fun _ => ?_) (fun _ => ?_) <;> (rename_i h; try simp only [decide_eq_true_eq, decide_eq_false_iff_not, Bool.not_eq_true', Bool.not_eq_false', Int.not_lt, Int.not_le] at h)) | (first | (((with_reducible refine Ok.bind2 (drawItem_O (by assumption) ?_) ?_); (next => first | assumption | with_reducible exact wrI _ | ((unfold I64; constructor <;> omega))); rintro _ _ ⟨_, _⟩)) | (((with_reducible refine Ok.bind2 (op_O (by assumption) _) ?_); rintro _ _ ⟨_, _, _, _, _⟩)) | (((with_reducible refine Ok.bind2 (drawKey_O (by assumption)) ?_); rintro _ _ ⟨_, _⟩)) | (((with_reducible refine Ok.bind2 (drawVal_O (by assumption)) ?_); rintro _ _ ⟨_, _⟩)) | (((with_reducible refine Ok.bind2 (pick_P (by assumption) ?_ ?_) ?_); (next => exact Nat.succ_pos _); (next => repeat' (first | trivial | ((repeat' (first | dsimp only [gi_c0, gi_cs, gl_c0, gl_cs, gi_v0] | with_reducible assumption | with_reducible exact wrI _ | (unfold I64; constructor <;> omega) | omega | (simp only [List.length_set, List.length_append, List.length_cons, List.length_nil, List.length_take, List.length_drop]; omega) | with_reducible refine LW.set' ?_ _ ?_ | with_reducible refine LW.snoc ?_ ?_ ?_ | with_reducible refine LW.takeL ?_ _ | with_reducible refine LW.dropL ?_ _ | with_reducible refine W_int.mk ?_ | assumption)); done) | refine And.intro ?_ ?_)); rintro _ _ ⟨_, _⟩)) | (((with_reducible refine Ok.bind2 (once_P (by assumption) _) ?_); rintro _ _ _)) | (((with_reducible refine Ok.bind2 (below_P (by assumption) _) ?_); rintro _ _ ⟨_, _, _, _⟩))) | with_reducible refine Ok.ret ?_))))
      · refine (ih _ _ _ _ (by assumption) (LW.snoc hl (by omega) (by assumption)) (wrI _) ?_ ?_ ?_ ?_).ok <;> (rw [wr64' (n := i + 1) (by omega) (by omega)]; try simp only [List.length_append, List.length_cons, List.length_nil]) <;> omega
      · exact ⟨hb, hl, by show l.length ≤ 20; omega⟩
  unfold spec_l3drawLog
  refine .of (Ok.bind2 (key ((n - 0).toNat + 1) 1 0 c [] h LW.nil ⟨by decide, by decide⟩ (by decide) rfl h0 (by omega)) ?_)
  rintro _ _ ⟨_, _, _⟩
  exact Ok.ret ⟨by assumption, by assumption, by assumption⟩
end Go.Eng.R
open Go Go.Eng
namespace Go.Eng.R
set_option maxRecDepth 100000
theorem count_O {c : V} (h : CurOk c) : Ok2 (fun x c => CurOk c ∧ 1 ≤ x ∧ x ≤ 5) (spec_l4count (n_spec_l1Cur c)) := by
  unfold spec_l4count
  obtain ⟨j, c', e, h1, hj⟩ := pick_ok h (l := [(V.int .i64 1), (V.int .i64 2), (V.int .i64 3), (V.int .i64 3), (V.int .i64 3), (V.int .i64 5)]) (by decide)
  rw [nn_cur, e]
  have key : ∀ j ∈ List.range 6, 1 ≤ gi (rd [(V.int .i64 1), (V.int .i64 2), (V.int .i64 3), (V.int .i64 3), (V.int .i64 3), (V.int .i64 5)] j) 0 ∧ gi (rd [(V.int .i64 1), (V.int .i64 2), (V.int .i64 3), (V.int .i64 3), (V.int .i64 3), (V.int .i64 5)] j) 0 ≤ 5 := by decide
  have := key j (List.mem_range.2 hj)
  exact ⟨_, _, rfl, h1, this.1, this.2⟩
def newN (id servers : Int) : V := V.agg [(V.int .i64 id), (V.int .i64 0), (V.int .i64 (-1)), (V.inl t_impl_Item []), (V.int .i64 0), (V.int .i64 0), (V.int .i64 (-1)), (V.int .i64 0), (V.inl t_bool (List.replicate servers.toNat (V.bool false))), (V.inl t_int' (List.replicate servers.toNat (V.int .i64 0))), (V.inl t_int' (List.replicate servers.toNat (V.int .i64 0)))]
def IsNew (id servers : Int) (n : V) : Prop := gi n 0 = id ∧ gi n 5 = 0 ∧ ((gl n 8).length : Int) = servers ∧ LW W_int (gl n 9) ∧ ((gl n 9).length : Int) = servers ∧ LW W_int (gl n 10) ∧ ((gl n 10).length : Int) = servers
theorem newN_O (id : Int) {servers : Int} (h0 : 1 ≤ servers) (h1 : servers ≤ 5) : Ok (IsNew id servers) (spec_l4new id servers) := by
  unfold spec_l4new
  rw [decide_eq_true (p := (0 : Int) ≤ servers) (by omega), decide_eq_true (p := servers = servers) rfl, roomy_of (n := servers.toNat) (b := 1) (by omega) (by omega), roomy_of (n := servers.toNat) (b := 8) (by omega) (by omega)]
  have hz : LW W_int (List.replicate servers.toNat (V.int .i64 0)) := LW.rep (by omega) (⟨by decide, by decide⟩ : I64 0)
  have hl : ∀ x : V, ((List.replicate servers.toNat x).length : Int) = servers := fun x => by rw [List.length_replicate]; omega
  exact ⟨_, rfl, rfl, rfl, hl _, hz, hl _, hz, hl _⟩
def B_Node (m : Nat) (n : V) : Prop := I64 (gi n 0) ∧ I64 (gi n 1) ∧ I64 (gi n 2) ∧ LW B_Item (gl n 3) ∧ (gl n 3).length ≤ 396 + m ∧ I64 (gi n 4) ∧ I64 (gi n 5) ∧ I64 (gi n 6) ∧ I64 (gi n 7) ∧ (gl n 8).length ≤ m ∧ LW W_int (gl n 9) ∧ (gl n 9).length ≤ m ∧ LW W_int (gl n 10) ∧ (gl n 10).length ≤ m
theorem termAt_O {n : V} (hl : LW B_Item (gl n 3)) (p : Int) : Ok I64 (spec_l4termAt n p) := by
  unfold spec_l4termAt
  by_cases h1 : p < 1
  · rw [decide_eq_true h1]; exact ⟨_, rfl, by ((unfold I64; constructor <;> omega))⟩
  by_cases h2 : (((gl n 3).length : Nat) : Int) < p
  · rw [decide_eq_false h1, decide_eq_true h2]; exact ⟨_, rfl, by ((unfold I64; constructor <;> omega))⟩
  have hl1 := hl.1
  rw [decide_eq_false h1, decide_eq_false h2, wr64' (n := p - 1) (by omega) (by omega), idx_of (i := p - 1) (by omega) (by omega)]
  exact ⟨_, rfl, (LW.rd hl (i := (p - 1).toNat) (by omega)).1⟩
theorem node_loop {servers k6 : Int} (hs0 : 1 ≤ servers) (hs1 : servers ≤ 5) (r3 : List V) (r4 r5 r6 r7 r8 : List V) (w7 : LW B_Item r7) (l7 : r7.length ≤ 401) (l8 : r8.length ≤ 5) : ∀ (k : Nat) (i : Int) (b b1 b2 : V) (r9 r10 : List V), CurOk b → 0 ≤ i → i ≤ servers → (servers - i).toNat < k →
    LW W_int r9 → (r9.length : Int) = servers → LW W_int r10 → (r10.length : Int) = servers → I64 (gi b2 0) → I64 (gi b2 1) → I64 (gi b2 2) → I64 (gi b2 4) → I64 (gi b2 5) → I64 (gi b2 6) → I64 (gi b2 7) →
    Ok (fun r => CurOk r.1 ∧ I64 (gi r.2.2.1 0) ∧ I64 (gi r.2.2.1 1) ∧ I64 (gi r.2.2.1 2) ∧ I64 (gi r.2.2.1 4) ∧ I64 (gi r.2.2.1 5) ∧ I64 (gi r.2.2.1 6) ∧ I64 (gi r.2.2.1 7) ∧ LW B_Item r.2.2.2.2.2.2.2.1 ∧ r.2.2.2.2.2.2.2.1.length ≤ 401 ∧ r.2.2.2.2.2.2.2.2.1.length ≤ 5 ∧ LW W_int r.2.2.2.2.2.2.2.2.2.1 ∧ r.2.2.2.2.2.2.2.2.2.1.length ≤ 5 ∧ LW W_int r.2.2.2.2.2.2.2.2.2.2 ∧ r.2.2.2.2.2.2.2.2.2.2.length ≤ 5 ∧ 1 ≤ r.2.2.2.2.2.2.2.2.2.1.length ∧ 1 ≤ r.2.2.2.2.2.2.2.2.2.2.length)
      (spec_l4node_l26 k servers k6 i (n_spec_l1Cur b) b1 b2 r3 r4 r5 r6 r7 r8 r9 r10)
  | 0, _, _, _, _, _, _, _, _, _, h, _, _, _, _, _, _, _, _, _, _, _ => by omega
  | k + 1, i, b, b1, b2, r9, r10, hb, i0, i1, hk, w9, l9, w10, l10, p0, p1, p2, p4, p5, p6, p7 => by
    have hb' : CurOk (n_spec_l1Cur b) := hb
    have hw : i < servers → IntKind.i64.wrap (i + 1) = i + 1 := fun _ => wr64' (by omega) (by omega)
    unfold spec_l4node_l26
    ((repeat' (((with_reducible refine (id ?_ : Ok _ _)); first | (with_reducible refine Ok.chk (by (first | (refine idx_of ?_ ?_ <;> (try simp only [List.length_set, List.length_append, List.length_cons, List.length_nil, List.length_replicate, Nat.zero_add]) <;> omega) | (refine room_of ?_ ?_ <;> (try simp only [List.length_set, List.length_append, List.length_cons, List.length_nil, List.length_replicate, Nat.zero_add]) <;> omega) | assumption | (simp; done) | (simp; omega))) ?_) | ((with_reducible refine Ok.iteT ?_ ?_); (next => first | exact decide_eq_true (by with_reducible rfl) | (refine congrArg not (decide_eq_false ?_); intro h; revert h; dsimp only; decide))) | ((with_reducible refine Ok.iteF ?_ ?_); (next => first | (refine decide_eq_false ?_; intro h; revert h; dsimp only; decide) | exact congrArg not (decide_eq_true (by with_reducible rfl)))) | (with_reducible refine Ok.ite (fun _ => ?_) (fun _ => ?_) <;> (rename_i h; try simp only [decide_eq_true_eq, decide_eq_false_iff_not, Bool.not_eq_true', Bool.not_eq_false', Int.not_lt, Int.not_le] at h)) | (first | (((with_reducible refine Ok.bind2 (drawItem_O (by assumption) ?_) ?_); (next => first | assumption | with_reducible exact wrI _ | ((unfold I64; constructor <;> omega))); rintro _ _ ⟨_, _⟩)) | (((with_reducible refine Ok.bind2 (op_O (by assumption) _) ?_); rintro _ _ ⟨_, _, _, _, _⟩)) | (((with_reducible refine Ok.bind2 (drawKey_O (by assumption)) ?_); rintro _ _ ⟨_, _⟩)) | (((with_reducible refine Ok.bind2 (drawVal_O (by assumption)) ?_); rintro _ _ ⟨_, _⟩)) | (((with_reducible refine Ok.bind2 (pick_P (by assumption) ?_ ?_) ?_); (next => exact Nat.succ_pos _); (next => repeat' (first | trivial | ((repeat' (first | dsimp only [gi_c0, gi_cs, gl_c0, gl_cs, gi_v0] | with_reducible assumption | with_reducible exact wrI _ | (unfold I64; constructor <;> omega) | omega | (simp only [List.length_set, List.length_append, List.length_cons, List.length_nil, List.length_take, List.length_drop]; omega) | with_reducible refine LW.set' ?_ _ ?_ | with_reducible refine LW.snoc ?_ ?_ ?_ | with_reducible refine LW.takeL ?_ _ | with_reducible refine LW.dropL ?_ _ | with_reducible refine W_int.mk ?_ | assumption)); done) | refine And.intro ?_ ?_)); rintro _ _ ⟨_, _⟩)) | (((with_reducible refine Ok.bind2 (once_P (by assumption) _) ?_); rintro _ _ _)) | (((with_reducible refine Ok.bind2 (below_P (by assumption) _) ?_); rintro _ _ ⟨_, _, _, _⟩))) | with_reducible refine Ok.ret ?_))))
    · refine node_loop hs0 hs1 _ _ _ _ _ _ w7 l7 l8 k _ _ _ _ _ _ (by assumption) ?_ ?_ ?_ (LW.set' (LW.set' w9 _ (W_int.mk (wrI _))) _ (W_int.mk (wrI _))) (by simpa using l9) (LW.set' w10 _ ?_) (by simpa using l10) p0 p1 p2 p4 p5 p6 p7
      · rw [hw (by assumption)]; omega
      · rw [hw (by assumption)]; omega
      · rw [hw (by assumption)]; omega
      · refine W_int.mk ?_; dsimp only; ((unfold I64; constructor <;> omega))
    · refine node_loop hs0 hs1 _ _ _ _ _ _ w7 l7 l8 k _ _ _ _ _ _ (by assumption) ?_ ?_ ?_ (LW.set' w9 _ (W_int.mk (wrI _))) (by simpa using l9) (LW.set' w10 _ ?_) (by simpa using l10) p0 p1 p2 p4 p5 p6 p7
      · rw [hw (by assumption)]; omega
      · rw [hw (by assumption)]; omega
      · rw [hw (by assumption)]; omega
      · refine W_int.mk ?_; dsimp only; ((unfold I64; constructor <;> omega))
    · exact ⟨hb, p0, p1, p2, p4, p5, p6, p7, w7, l7, l8, w9, by show r9.length ≤ 5; omega, w10, by show r10.length ≤ 5; omega, by show 1 ≤ r9.length; omega, by show 1 ≤ r10.length; omega⟩
set_option maxHeartbeats 2000000 in
theorem node_O {c : V} (h : CurOk c) {servers : Int} (hs0 : 1 ≤ servers) (hs1 : servers ≤ 5) : Ok2 (fun n c => CurOk c ∧ B_Node 5 n ∧ 1 ≤ (gl n 9).length ∧ 1 ≤ (gl n 10).length) (spec_l4node (n_spec_l1Cur c) servers) := by
  unfold spec_l4node
  refine .of ?_
  have h' : CurOk (n_spec_l1Cur c) := h
  have hls : IntKind.i64.wrap (servers + 1) = servers + 1 := wr64' (by omega) (by omega)
  ((repeat' (((with_reducible refine (id ?_ : Ok _ _)); first | (with_reducible refine Ok.chk (by (first | (refine idx_of ?_ ?_ <;> (try simp only [List.length_set, List.length_append, List.length_cons, List.length_nil, List.length_replicate, Nat.zero_add]) <;> omega) | (refine room_of ?_ ?_ <;> (try simp only [List.length_set, List.length_append, List.length_cons, List.length_nil, List.length_replicate, Nat.zero_add]) <;> omega) | assumption | (simp; done) | (simp; omega))) ?_) | ((with_reducible refine Ok.iteT ?_ ?_); (next => first | exact decide_eq_true (by with_reducible rfl) | (refine congrArg not (decide_eq_false ?_); intro h; revert h; dsimp only; decide))) | ((with_reducible refine Ok.iteF ?_ ?_); (next => first | (refine decide_eq_false ?_; intro h; revert h; dsimp only; decide) | exact congrArg not (decide_eq_true (by with_reducible rfl)))) | (with_reducible refine Ok.ite (fun _ => ?_) (fun _ => ?_) <;> (rename_i h; try simp only [decide_eq_true_eq, decide_eq_false_iff_not, Bool.not_eq_true', Bool.not_eq_false', Int.not_lt, Int.not_le] at h)) | (first | (((with_reducible refine Ok.bind (node_loop (by assumption) (by assumption) _ _ _ _ _ _ ?_ ?_ ?_ _ _ _ _ _ _ _ (by assumption) ?_ ?_ ?_ ?_ ?_ ?_ ?_ ?_ ?_ ?_ ?_ ?_ ?_ ?_) ?_); (next => ((repeat' (first | dsimp only [gi_c0, gi_cs, gl_c0, gl_cs, gi_v0] | with_reducible assumption | with_reducible exact wrI _ | (unfold I64; constructor <;> omega) | omega | (simp only [List.length_set, List.length_append, List.length_cons, List.length_nil, List.length_take, List.length_drop]; omega) | with_reducible refine LW.set' ?_ _ ?_ | with_reducible refine LW.snoc ?_ ?_ ?_ | with_reducible refine LW.takeL ?_ _ | with_reducible refine LW.dropL ?_ _ | with_reducible refine W_int.mk ?_ | assumption)); done)); (next => ((repeat' (first | dsimp only [gi_c0, gi_cs, gl_c0, gl_cs, gi_v0] | with_reducible assumption | with_reducible exact wrI _ | (unfold I64; constructor <;> omega) | omega | (simp only [List.length_set, List.length_append, List.length_cons, List.length_nil, List.length_take, List.length_drop]; omega) | with_reducible refine LW.set' ?_ _ ?_ | with_reducible refine LW.snoc ?_ ?_ ?_ | with_reducible refine LW.takeL ?_ _ | with_reducible refine LW.dropL ?_ _ | with_reducible refine W_int.mk ?_ | assumption)); done)); (next => ((repeat' (first | dsimp only [gi_c0, gi_cs, gl_c0, gl_cs, gi_v0] | with_reducible assumption | with_reducible exact wrI _ | (unfold I64; constructor <;> omega) | omega | (simp only [List.length_set, List.length_append, List.length_cons, List.length_nil, List.length_take, List.length_drop]; omega) | with_reducible refine LW.set' ?_ _ ?_ | with_reducible refine LW.snoc ?_ ?_ ?_ | with_reducible refine LW.takeL ?_ _ | with_reducible refine LW.dropL ?_ _ | with_reducible refine W_int.mk ?_ | assumption)); done)); (next => ((repeat' (first | dsimp only [gi_c0, gi_cs, gl_c0, gl_cs, gi_v0] | with_reducible assumption | with_reducible exact wrI _ | (unfold I64; constructor <;> omega) | omega | (simp only [List.length_set, List.length_append, List.length_cons, List.length_nil, List.length_take, List.length_drop]; omega) | with_reducible refine LW.set' ?_ _ ?_ | with_reducible refine LW.snoc ?_ ?_ ?_ | with_reducible refine LW.takeL ?_ _ | with_reducible refine LW.dropL ?_ _ | with_reducible refine W_int.mk ?_ | assumption)); done)); (next => ((repeat' (first | dsimp only [gi_c0, gi_cs, gl_c0, gl_cs, gi_v0] | with_reducible assumption | with_reducible exact wrI _ | (unfold I64; constructor <;> omega) | omega | (simp only [List.length_set, List.length_append, List.length_cons, List.length_nil, List.length_take, List.length_drop]; omega) | with_reducible refine LW.set' ?_ _ ?_ | with_reducible refine LW.snoc ?_ ?_ ?_ | with_reducible refine LW.takeL ?_ _ | with_reducible refine LW.dropL ?_ _ | with_reducible refine W_int.mk ?_ | assumption)); done)); (next => ((repeat' (first | dsimp only [gi_c0, gi_cs, gl_c0, gl_cs, gi_v0] | with_reducible assumption | with_reducible exact wrI _ | (unfold I64; constructor <;> omega) | omega | (simp only [List.length_set, List.length_append, List.length_cons, List.length_nil, List.length_take, List.length_drop]; omega) | with_reducible refine LW.set' ?_ _ ?_ | with_reducible refine LW.snoc ?_ ?_ ?_ | with_reducible refine LW.takeL ?_ _ | with_reducible refine LW.dropL ?_ _ | with_reducible refine W_int.mk ?_ | assumption)); done)); (next => ((repeat' (first | dsimp only [gi_c0, gi_cs, gl_c0, gl_cs, gi_v0] | with_reducible assumption | with_reducible exact wrI _ | (unfold I64; constructor <;> omega) | omega | (simp only [List.length_set, List.length_append, List.length_cons, List.length_nil, List.length_take, List.length_drop]; omega) | with_reducible refine LW.set' ?_ _ ?_ | with_reducible refine LW.snoc ?_ ?_ ?_ | with_reducible refine LW.takeL ?_ _ | with_reducible refine LW.dropL ?_ _ | with_reducible refine W_int.mk ?_ | assumption)); done)); (next => ((repeat' (first | dsimp only [gi_c0, gi_cs, gl_c0, gl_cs, gi_v0] | with_reducible assumption | with_reducible exact wrI _ | (unfold I64; constructor <;> omega) | omega | (simp only [List.length_set, List.length_append, List.length_cons, List.length_nil, List.length_take, List.length_drop]; omega) | with_reducible refine LW.set' ?_ _ ?_ | with_reducible refine LW.snoc ?_ ?_ ?_ | with_reducible refine LW.takeL ?_ _ | with_reducible refine LW.dropL ?_ _ | with_reducible refine W_int.mk ?_ | assumption)); done)); (next => ((repeat' (first | dsimp only [gi_c0, gi_cs, gl_c0, gl_cs, gi_v0] | with_reducible assumption | with_reducible exact wrI _ | (unfold I64; constructor <;> omega) | omega | (simp only [List.length_set, List.length_append, List.length_cons, List.length_nil, List.length_take, List.length_drop]; omega) | with_reducible refine LW.set' ?_ _ ?_ | with_reducible refine LW.snoc ?_ ?_ ?_ | with_reducible refine LW.takeL ?_ _ | with_reducible refine LW.dropL ?_ _ | with_reducible refine W_int.mk ?_ | assumption)); done)); (next => ((repeat' (first | dsimp only [gi_c0, gi_cs, gl_c0, gl_cs, gi_v0] | with_reducible assumption | with_reducible exact wrI _ | (unfold I64; constructor <;> omega) | omega | (simp only [List.length_set, List.length_append, List.length_cons, List.length_nil, List.length_take, List.length_drop]; omega) | with_reducible refine LW.set' ?_ _ ?_ | with_reducible refine LW.snoc ?_ ?_ ?_ | with_reducible refine LW.takeL ?_ _ | with_reducible refine LW.dropL ?_ _ | with_reducible refine W_int.mk ?_ | assumption)); done)); (next => ((repeat' (first | dsimp only [gi_c0, gi_cs, gl_c0, gl_cs, gi_v0] | with_reducible assumption | with_reducible exact wrI _ | (unfold I64; constructor <;> omega) | omega | (simp only [List.length_set, List.length_append, List.length_cons, List.length_nil, List.length_take, List.length_drop]; omega) | with_reducible refine LW.set' ?_ _ ?_ | with_reducible refine LW.snoc ?_ ?_ ?_ | with_reducible refine LW.takeL ?_ _ | with_reducible refine LW.dropL ?_ _ | with_reducible refine W_int.mk ?_ | assumption)); done)); (next => ((repeat' (first | dsimp only [gi_c0, gi_cs, gl_c0, gl_cs, gi_v0] | with_reducible assumption | with_reducible exact wrI _ | (unfold I64; constructor <;> omega) | omega | (simp only [List.length_set, List.length_append, List.length_cons, List.length_nil, List.length_take, List.length_drop]; omega) | with_reducible refine LW.set' ?_ _ ?_ | with_reducible refine LW.snoc ?_ ?_ ?_ | with_reducible refine LW.takeL ?_ _ | with_reducible refine LW.dropL ?_ _ | with_reducible refine W_int.mk ?_ | assumption)); done)); (next => ((repeat' (first | dsimp only [gi_c0, gi_cs, gl_c0, gl_cs, gi_v0] | with_reducible assumption | with_reducible exact wrI _ | (unfold I64; constructor <;> omega) | omega | (simp only [List.length_set, List.length_append, List.length_cons, List.length_nil, List.length_take, List.length_drop]; omega) | with_reducible refine LW.set' ?_ _ ?_ | with_reducible refine LW.snoc ?_ ?_ ?_ | with_reducible refine LW.takeL ?_ _ | with_reducible refine LW.dropL ?_ _ | with_reducible refine W_int.mk ?_ | assumption)); done)); (next => ((repeat' (first | dsimp only [gi_c0, gi_cs, gl_c0, gl_cs, gi_v0] | with_reducible assumption | with_reducible exact wrI _ | (unfold I64; constructor <;> omega) | omega | (simp only [List.length_set, List.length_append, List.length_cons, List.length_nil, List.length_take, List.length_drop]; omega) | with_reducible refine LW.set' ?_ _ ?_ | with_reducible refine LW.snoc ?_ ?_ ?_ | with_reducible refine LW.takeL ?_ _ | with_reducible refine LW.dropL ?_ _ | with_reducible refine W_int.mk ?_ | assumption)); done)); (next => ((repeat' (first | dsimp only [gi_c0, gi_cs, gl_c0, gl_cs, gi_v0] | with_reducible assumption | with_reducible exact wrI _ | (unfold I64; constructor <;> omega) | omega | (simp only [List.length_set, List.length_append, List.length_cons, List.length_nil, List.length_take, List.length_drop]; omega) | with_reducible refine LW.set' ?_ _ ?_ | with_reducible refine LW.snoc ?_ ?_ ?_ | with_reducible refine LW.takeL ?_ _ | with_reducible refine LW.dropL ?_ _ | with_reducible refine W_int.mk ?_ | assumption)); done)); (next => ((repeat' (first | dsimp only [gi_c0, gi_cs, gl_c0, gl_cs, gi_v0] | with_reducible assumption | with_reducible exact wrI _ | (unfold I64; constructor <;> omega) | omega | (simp only [List.length_set, List.length_append, List.length_cons, List.length_nil, List.length_take, List.length_drop]; omega) | with_reducible refine LW.set' ?_ _ ?_ | with_reducible refine LW.snoc ?_ ?_ ?_ | with_reducible refine LW.takeL ?_ _ | with_reducible refine LW.dropL ?_ _ | with_reducible refine W_int.mk ?_ | assumption)); done)); (next => ((repeat' (first | dsimp only [gi_c0, gi_cs, gl_c0, gl_cs, gi_v0] | with_reducible assumption | with_reducible exact wrI _ | (unfold I64; constructor <;> omega) | omega | (simp only [List.length_set, List.length_append, List.length_cons, List.length_nil, List.length_take, List.length_drop]; omega) | with_reducible refine LW.set' ?_ _ ?_ | with_reducible refine LW.snoc ?_ ?_ ?_ | with_reducible refine LW.takeL ?_ _ | with_reducible refine LW.dropL ?_ _ | with_reducible refine W_int.mk ?_ | assumption)); done)); rintro _ ⟨_, _, _, _, _, _, _, _, _, _, _, _, _, _, _, _, _⟩)) | (((with_reducible refine Ok.bind (termAt_O ?_ _) ?_); (next => assumption); rintro _ _)) | (((with_reducible refine Ok.bind2 (drawLog_O (by assumption) ?_ ?_) ?_); (next => dsimp only; omega); (next => dsimp only; omega); rintro _ _ ⟨_, _, _⟩)) | (((with_reducible refine Ok.bind (newN_O _ (by assumption) (by assumption)) ?_); rintro _ ⟨_, _, _, _, _, _, _⟩)) | (((with_reducible refine Ok.bind2 (drawItem_O (by assumption) ?_) ?_); (next => first | assumption | with_reducible exact wrI _ | ((unfold I64; constructor <;> omega))); rintro _ _ ⟨_, _⟩)) | (((with_reducible refine Ok.bind2 (op_O (by assumption) _) ?_); rintro _ _ ⟨_, _, _, _, _⟩)) | (((with_reducible refine Ok.bind2 (drawKey_O (by assumption)) ?_); rintro _ _ ⟨_, _⟩)) | (((with_reducible refine Ok.bind2 (drawVal_O (by assumption)) ?_); rintro _ _ ⟨_, _⟩)) | (((with_reducible refine Ok.bind2 (pick_P (by assumption) ?_ ?_) ?_); (next => exact Nat.succ_pos _); (next => repeat' (first | trivial | ((repeat' (first | dsimp only [gi_c0, gi_cs, gl_c0, gl_cs, gi_v0] | with_reducible assumption | with_reducible exact wrI _ | (unfold I64; constructor <;> omega) | omega | (simp only [List.length_set, List.length_append, List.length_cons, List.length_nil, List.length_take, List.length_drop]; omega) | with_reducible refine LW.set' ?_ _ ?_ | with_reducible refine LW.snoc ?_ ?_ ?_ | with_reducible refine LW.takeL ?_ _ | with_reducible refine LW.dropL ?_ _ | with_reducible refine W_int.mk ?_ | assumption)); done) | refine And.intro ?_ ?_)); rintro _ _ ⟨_, _⟩)) | (((with_reducible refine Ok.bind2 (once_P (by assumption) _) ?_); rintro _ _ _)) | (((with_reducible refine Ok.bind2 (below_P (by assumption) _) ?_); rintro _ _ ⟨_, _, _, _⟩))) | with_reducible refine Ok.ret ?_))))
  all_goals (refine ⟨by assumption, ⟨?_, ?_, ?_, ?_, ?_, ?_, ?_, ?_, ?_, ?_, ?_, ?_, ?_, ?_⟩, ?_, ?_⟩ <;> ((repeat' (first | dsimp only [gi_c0, gi_cs, gl_c0, gl_cs, gi_v0] | with_reducible assumption | with_reducible exact wrI _ | (unfold I64; constructor <;> omega) | omega | (simp only [List.length_set, List.length_append, List.length_cons, List.length_nil, List.length_take, List.length_drop]; omega) | with_reducible refine LW.set' ?_ _ ?_ | with_reducible refine LW.snoc ?_ ?_ ?_ | with_reducible refine LW.takeL ?_ _ | with_reducible refine LW.dropL ?_ _ | with_reducible refine W_int.mk ?_ | assumption)); done))
end Go.Eng.R
open Go Go.Eng
namespace Go.Eng.R
set_option maxRecDepth 100000
theorem bound_400 {x : Int} (h0 : 0 ≤ x) (h1 : x < 2 ∨ x = 0) : IntKind.i64.wrap (200 + (IntKind.i64.wrap ((IntKind.i64.wrap (x * 400)).tdiv 2))) ≤ 400 := by
  have : x = 0 ∨ x = 1 := by omega
  rcases this with rfl | rfl <;> decide
theorem bent_loop (r3 : List V) (r4 r5 r6 r8 r9 r10 : List V) (l8 : r8.length ≤ 5) (w9 : LW W_int r9) (l9 : r9.length ≤ 5) (w10 : LW W_int r10) (l10 : r10.length ≤ 5) : ∀ (k : Nat) (b b1 b2 : V) (r7 : List V), CurOk b → 401 - r7.length < k →
    LW B_Item r7 → r7.length ≤ 401 → I64 (gi b2 0) → I64 (gi b2 1) → I64 (gi b2 2) → I64 (gi b2 4) → I64 (gi b2 5) → I64 (gi b2 6) → I64 (gi b2 7) →
    Ok (fun r => CurOk r.1 ∧ I64 (gi r.2.2.1 0) ∧ I64 (gi r.2.2.1 1) ∧ I64 (gi r.2.2.1 2) ∧ I64 (gi r.2.2.1 4) ∧ I64 (gi r.2.2.1 5) ∧ I64 (gi r.2.2.1 6) ∧ I64 (gi r.2.2.1 7) ∧ LW B_Item r.2.2.2.2.2.2.2.1 ∧ r.2.2.2.2.2.2.2.1.length ≤ 401 ∧ r.2.2.2.2.2.2.2.2.1.length ≤ 5 ∧ LW W_int r.2.2.2.2.2.2.2.2.2.1 ∧ r.2.2.2.2.2.2.2.2.2.1.length ≤ 5 ∧ LW W_int r.2.2.2.2.2.2.2.2.2.2 ∧ r.2.2.2.2.2.2.2.2.2.2.length ≤ 5)
      (spec_l4bent_l5 k (n_spec_l1Cur b) b1 b2 r3 r4 r5 r6 r7 r8 r9 r10)
  | 0, _, _, _, _, _, h, _, _, _, _, _, _, _, _, _ => by omega
  | k + 1, b, b1, b2, r7, hb, hk, w7, l7, p0, p1, p2, p4, p5, p6, p7 => by
    have hb' : CurOk (n_spec_l1Cur b) := hb
    unfold spec_l4bent_l5
    ((repeat' (((with_reducible refine (id ?_ : Ok _ _)); first | (with_reducible refine Ok.chk (by (first | (refine idx_of ?_ ?_ <;> (try simp only [List.length_set, List.length_append, List.length_cons, List.length_nil, List.length_replicate, Nat.zero_add]) <;> omega) | (refine room_of ?_ ?_ <;> (try simp only [List.length_set, List.length_append, List.length_cons, List.length_nil, List.length_replicate, Nat.zero_add]) <;> omega) | assumption | (simp; done) | (simp; omega))) ?_) | ((with_reducible refine Ok.iteT ?_ ?_); (next => first | exact decide_eq_true (by with_reducible rfl) | (refine congrArg not (decide_eq_false ?_); intro h; revert h; dsimp only; decide))) | ((with_reducible refine Ok.iteF ?_ ?_); (next => first | (refine decide_eq_false ?_; intro h; revert h; dsimp only; decide) | exact congrArg not (decide_eq_true (by with_reducible rfl)))) | (with_reducible refine Ok.ite (fun _ => ?_) (fun _ => ?_) <;> (rename_i h; try simp only [decide_eq_true_eq, decide_eq_false_iff_not, Bool.not_eq_true', Bool.not_eq_false', Int.not_lt, Int.not_le] at h)) | (first | (((with_reducible refine Ok.bind (node_loop (by assumption) (by assumption) _ _ _ _ _ _ ?_ ?_ ?_ _ _ _ _ _ _ _ (by assumption) ?_ ?_ ?_ ?_ ?_ ?_ ?_ ?_ ?_ ?_ ?_ ?_ ?_ ?_) ?_); (next => ((repeat' (first | dsimp only [gi_c0, gi_cs, gl_c0, gl_cs, gi_v0] | with_reducible assumption | with_reducible exact wrI _ | (unfold I64; constructor <;> omega) | omega | (simp only [List.length_set, List.length_append, List.length_cons, List.length_nil, List.length_take, List.length_drop]; omega) | with_reducible refine LW.set' ?_ _ ?_ | with_reducible refine LW.snoc ?_ ?_ ?_ | with_reducible refine LW.takeL ?_ _ | with_reducible refine LW.dropL ?_ _ | with_reducible refine W_int.mk ?_ | assumption)); done)); (next => ((repeat' (first | dsimp only [gi_c0, gi_cs, gl_c0, gl_cs, gi_v0] | with_reducible assumption | with_reducible exact wrI _ | (unfold I64; constructor <;> omega) | omega | (simp only [List.length_set, List.length_append, List.length_cons, List.length_nil, List.length_take, List.length_drop]; omega) | with_reducible refine LW.set' ?_ _ ?_ | with_reducible refine LW.snoc ?_ ?_ ?_ | with_reducible refine LW.takeL ?_ _ | with_reducible refine LW.dropL ?_ _ | with_reducible refine W_int.mk ?_ | assumption)); done)); (next => ((repeat' (first | dsimp only [gi_c0, gi_cs, gl_c0, gl_cs, gi_v0] | with_reducible assumption | with_reducible exact wrI _ | (unfold I64; constructor <;> omega) | omega | (simp only [List.length_set, List.length_append, List.length_cons, List.length_nil, List.length_take, List.length_drop]; omega) | with_reducible refine LW.set' ?_ _ ?_ | with_reducible refine LW.snoc ?_ ?_ ?_ | with_reducible refine LW.takeL ?_ _ | with_reducible refine LW.dropL ?_ _ | with_reducible refine W_int.mk ?_ | assumption)); done)); (next => ((repeat' (first | dsimp only [gi_c0, gi_cs, gl_c0, gl_cs, gi_v0] | with_reducible assumption | with_reducible exact wrI _ | (unfold I64; constructor <;> omega) | omega | (simp only [List.length_set, List.length_append, List.length_cons, List.length_nil, List.length_take, List.length_drop]; omega) | with_reducible refine LW.set' ?_ _ ?_ | with_reducible refine LW.snoc ?_ ?_ ?_ | with_reducible refine LW.takeL ?_ _ | with_reducible refine LW.dropL ?_ _ | with_reducible refine W_int.mk ?_ | assumption)); done)); (next => ((repeat' (first | dsimp only [gi_c0, gi_cs, gl_c0, gl_cs, gi_v0] | with_reducible assumption | with_reducible exact wrI _ | (unfold I64; constructor <;> omega) | omega | (simp only [List.length_set, List.length_append, List.length_cons, List.length_nil, List.length_take, List.length_drop]; omega) | with_reducible refine LW.set' ?_ _ ?_ | with_reducible refine LW.snoc ?_ ?_ ?_ | with_reducible refine LW.takeL ?_ _ | with_reducible refine LW.dropL ?_ _ | with_reducible refine W_int.mk ?_ | assumption)); done)); (next => ((repeat' (first | dsimp only [gi_c0, gi_cs, gl_c0, gl_cs, gi_v0] | with_reducible assumption | with_reducible exact wrI _ | (unfold I64; constructor <;> omega) | omega | (simp only [List.length_set, List.length_append, List.length_cons, List.length_nil, List.length_take, List.length_drop]; omega) | with_reducible refine LW.set' ?_ _ ?_ | with_reducible refine LW.snoc ?_ ?_ ?_ | with_reducible refine LW.takeL ?_ _ | with_reducible refine LW.dropL ?_ _ | with_reducible refine W_int.mk ?_ | assumption)); done)); (next => ((repeat' (first | dsimp only [gi_c0, gi_cs, gl_c0, gl_cs, gi_v0] | with_reducible assumption | with_reducible exact wrI _ | (unfold I64; constructor <;> omega) | omega | (simp only [List.length_set, List.length_append, List.length_cons, List.length_nil, List.length_take, List.length_drop]; omega) | with_reducible refine LW.set' ?_ _ ?_ | with_reducible refine LW.snoc ?_ ?_ ?_ | with_reducible refine LW.takeL ?_ _ | with_reducible refine LW.dropL ?_ _ | with_reducible refine W_int.mk ?_ | assumption)); done)); (next => ((repeat' (first | dsimp only [gi_c0, gi_cs, gl_c0, gl_cs, gi_v0] | with_reducible assumption | with_reducible exact wrI _ | (unfold I64; constructor <;> omega) | omega | (simp only [List.length_set, List.length_append, List.length_cons, List.length_nil, List.length_take, List.length_drop]; omega) | with_reducible refine LW.set' ?_ _ ?_ | with_reducible refine LW.snoc ?_ ?_ ?_ | with_reducible refine LW.takeL ?_ _ | with_reducible refine LW.dropL ?_ _ | with_reducible refine W_int.mk ?_ | assumption)); done)); (next => ((repeat' (first | dsimp only [gi_c0, gi_cs, gl_c0, gl_cs, gi_v0] | with_reducible assumption | with_reducible exact wrI _ | (unfold I64; constructor <;> omega) | omega | (simp only [List.length_set, List.length_append, List.length_cons, List.length_nil, List.length_take, List.length_drop]; omega) | with_reducible refine LW.set' ?_ _ ?_ | with_reducible refine LW.snoc ?_ ?_ ?_ | with_reducible refine LW.takeL ?_ _ | with_reducible refine LW.dropL ?_ _ | with_reducible refine W_int.mk ?_ | assumption)); done)); (next => ((repeat' (first | dsimp only [gi_c0, gi_cs, gl_c0, gl_cs, gi_v0] | with_reducible assumption | with_reducible exact wrI _ | (unfold I64; constructor <;> omega) | omega | (simp only [List.length_set, List.length_append, List.length_cons, List.length_nil, List.length_take, List.length_drop]; omega) | with_reducible refine LW.set' ?_ _ ?_ | with_reducible refine LW.snoc ?_ ?_ ?_ | with_reducible refine LW.takeL ?_ _ | with_reducible refine LW.dropL ?_ _ | with_reducible refine W_int.mk ?_ | assumption)); done)); (next => ((repeat' (first | dsimp only [gi_c0, gi_cs, gl_c0, gl_cs, gi_v0] | with_reducible assumption | with_reducible exact wrI _ | (unfold I64; constructor <;> omega) | omega | (simp only [List.length_set, List.length_append, List.length_cons, List.length_nil, List.length_take, List.length_drop]; omega) | with_reducible refine LW.set' ?_ _ ?_ | with_reducible refine LW.snoc ?_ ?_ ?_ | with_reducible refine LW.takeL ?_ _ | with_reducible refine LW.dropL ?_ _ | with_reducible refine W_int.mk ?_ | assumption)); done)); (next => ((repeat' (first | dsimp only [gi_c0, gi_cs, gl_c0, gl_cs, gi_v0] | with_reducible assumption | with_reducible exact wrI _ | (unfold I64; constructor <;> omega) | omega | (simp only [List.length_set, List.length_append, List.length_cons, List.length_nil, List.length_take, List.length_drop]; omega) | with_reducible refine LW.set' ?_ _ ?_ | with_reducible refine LW.snoc ?_ ?_ ?_ | with_reducible refine LW.takeL ?_ _ | with_reducible refine LW.dropL ?_ _ | with_reducible refine W_int.mk ?_ | assumption)); done)); (next => ((repeat' (first | dsimp only [gi_c0, gi_cs, gl_c0, gl_cs, gi_v0] | with_reducible assumption | with_reducible exact wrI _ | (unfold I64; constructor <;> omega) | omega | (simp only [List.length_set, List.length_append, List.length_cons, List.length_nil, List.length_take, List.length_drop]; omega) | with_reducible refine LW.set' ?_ _ ?_ | with_reducible refine LW.snoc ?_ ?_ ?_ | with_reducible refine LW.takeL ?_ _ | with_reducible refine LW.dropL ?_ _ | with_reducible refine W_int.mk ?_ | assumption)); done)); (next => ((repeat' (first | dsimp only [gi_c0, gi_cs, gl_c0, gl_cs, gi_v0] | with_reducible assumption | with_reducible exact wrI _ | (unfold I64; constructor <;> omega) | omega | (simp only [List.length_set, List.length_append, List.length_cons, List.length_nil, List.length_take, List.length_drop]; omega) | with_reducible refine LW.set' ?_ _ ?_ | with_reducible refine LW.snoc ?_ ?_ ?_ | with_reducible refine LW.takeL ?_ _ | with_reducible refine LW.dropL ?_ _ | with_reducible refine W_int.mk ?_ | assumption)); done)); (next => ((repeat' (first | dsimp only [gi_c0, gi_cs, gl_c0, gl_cs, gi_v0] | with_reducible assumption | with_reducible exact wrI _ | (unfold I64; constructor <;> omega) | omega | (simp only [List.length_set, List.length_append, List.length_cons, List.length_nil, List.length_take, List.length_drop]; omega) | with_reducible refine LW.set' ?_ _ ?_ | with_reducible refine LW.snoc ?_ ?_ ?_ | with_reducible refine LW.takeL ?_ _ | with_reducible refine LW.dropL ?_ _ | with_reducible refine W_int.mk ?_ | assumption)); done)); (next => ((repeat' (first | dsimp only [gi_c0, gi_cs, gl_c0, gl_cs, gi_v0] | with_reducible assumption | with_reducible exact wrI _ | (unfold I64; constructor <;> omega) | omega | (simp only [List.length_set, List.length_append, List.length_cons, List.length_nil, List.length_take, List.length_drop]; omega) | with_reducible refine LW.set' ?_ _ ?_ | with_reducible refine LW.snoc ?_ ?_ ?_ | with_reducible refine LW.takeL ?_ _ | with_reducible refine LW.dropL ?_ _ | with_reducible refine W_int.mk ?_ | assumption)); done)); (next => ((repeat' (first | dsimp only [gi_c0, gi_cs, gl_c0, gl_cs, gi_v0] | with_reducible assumption | with_reducible exact wrI _ | (unfold I64; constructor <;> omega) | omega | (simp only [List.length_set, List.length_append, List.length_cons, List.length_nil, List.length_take, List.length_drop]; omega) | with_reducible refine LW.set' ?_ _ ?_ | with_reducible refine LW.snoc ?_ ?_ ?_ | with_reducible refine LW.takeL ?_ _ | with_reducible refine LW.dropL ?_ _ | with_reducible refine W_int.mk ?_ | assumption)); done)); rintro _ ⟨_, _, _, _, _, _, _, _, _, _, _, _, _, _, _, _, _⟩)) | (((with_reducible refine Ok.bind (termAt_O ?_ _) ?_); (next => assumption); rintro _ _)) | (((with_reducible refine Ok.bind2 (drawLog_O (by assumption) ?_ ?_) ?_); (next => dsimp only; omega); (next => dsimp only; omega); rintro _ _ ⟨_, _, _⟩)) | (((with_reducible refine Ok.bind (newN_O _ (by assumption) (by assumption)) ?_); rintro _ ⟨_, _, _, _, _, _, _⟩)) | (((with_reducible refine Ok.bind2 (drawItem_O (by assumption) ?_) ?_); (next => first | assumption | with_reducible exact wrI _ | ((unfold I64; constructor <;> omega))); rintro _ _ ⟨_, _⟩)) | (((with_reducible refine Ok.bind2 (op_O (by assumption) _) ?_); rintro _ _ ⟨_, _, _, _, _⟩)) | (((with_reducible refine Ok.bind2 (drawKey_O (by assumption)) ?_); rintro _ _ ⟨_, _⟩)) | (((with_reducible refine Ok.bind2 (drawVal_O (by assumption)) ?_); rintro _ _ ⟨_, _⟩)) | (((with_reducible refine Ok.bind2 (pick_P (by assumption) ?_ ?_) ?_); (next => exact Nat.succ_pos _); (next => repeat' (first | trivial | ((repeat' (first | dsimp only [gi_c0, gi_cs, gl_c0, gl_cs, gi_v0] | with_reducible assumption | with_reducible exact wrI _ | (unfold I64; constructor <;> omega) | omega | (simp only [List.length_set, List.length_append, List.length_cons, List.length_nil, List.length_take, List.length_drop]; omega) | with_reducible refine LW.set' ?_ _ ?_ | with_reducible refine LW.snoc ?_ ?_ ?_ | with_reducible refine LW.takeL ?_ _ | with_reducible refine LW.dropL ?_ _ | with_reducible refine W_int.mk ?_ | assumption)); done) | refine And.intro ?_ ?_)); rintro _ _ ⟨_, _⟩)) | (((with_reducible refine Ok.bind2 (once_P (by assumption) _) ?_); rintro _ _ _)) | (((with_reducible refine Ok.bind2 (below_P (by assumption) _) ?_); rintro _ _ ⟨_, _, _, _⟩))) | with_reducible refine Ok.ret ?_))))
    · have hx := bound_400 (by assumption) (by assumption)
      refine bent_loop r3 r4 r5 r6 r8 r9 r10 l8 w9 l9 w10 l10 k _ _ _ _ (by assumption) ?_ (LW.snoc w7 (by omega) ⟨p1, ?_, ?_, ?_, BS.nil, BS.nil, ?_⟩) ?_ p0 p1 p2 p4 p5 p6 p7
      · rw [List.length_append, List.length_cons, List.length_nil]; omega
      all_goals first | (rw [List.length_append, List.length_cons, List.length_nil]; omega) | ((repeat' (first | dsimp only [gi_c0, gi_cs, gl_c0, gl_cs, gi_v0] | with_reducible assumption | with_reducible exact wrI _ | (unfold I64; constructor <;> omega) | omega | (simp only [List.length_set, List.length_append, List.length_cons, List.length_nil, List.length_take, List.length_drop]; omega) | with_reducible refine LW.set' ?_ _ ?_ | with_reducible refine LW.snoc ?_ ?_ ?_ | with_reducible refine LW.takeL ?_ _ | with_reducible refine LW.dropL ?_ _ | with_reducible refine W_int.mk ?_ | assumption)); done)
    · exact ⟨by assumption, p0, p1, p2, p4, p5, p6, p7, w7, l7, l8, w9, l9, w10, l10⟩
set_option maxHeartbeats 2000000 in
theorem nbent_O {c : V} (h : CurOk c) {servers : Int} (hs0 : 1 ≤ servers) (hs1 : servers ≤ 5) : Ok2 (fun n c => CurOk c ∧ B_Node 10 n) (spec_l4bent (n_spec_l1Cur c) servers) := by
  unfold spec_l4bent
  refine .of ?_
  have h' : CurOk (n_spec_l1Cur c) := h
  ((repeat' (((with_reducible refine (id ?_ : Ok _ _)); first | (with_reducible refine Ok.chk (by (first | (refine idx_of ?_ ?_ <;> (try simp only [List.length_set, List.length_append, List.length_cons, List.length_nil, List.length_replicate, Nat.zero_add]) <;> omega) | (refine room_of ?_ ?_ <;> (try simp only [List.length_set, List.length_append, List.length_cons, List.length_nil, List.length_replicate, Nat.zero_add]) <;> omega) | assumption | (simp; done) | (simp; omega))) ?_) | ((with_reducible refine Ok.iteT ?_ ?_); (next => first | exact decide_eq_true (by with_reducible rfl) | (refine congrArg not (decide_eq_false ?_); intro h; revert h; dsimp only; decide))) | ((with_reducible refine Ok.iteF ?_ ?_); (next => first | (refine decide_eq_false ?_; intro h; revert h; dsimp only; decide) | exact congrArg not (decide_eq_true (by with_reducible rfl)))) | (with_reducible refine Ok.ite (fun _ => ?_) (fun _ => ?_) <;> (rename_i h; try simp only [decide_eq_true_eq, decide_eq_false_iff_not, Bool.not_eq_true', Bool.not_eq_false', Int.not_lt, Int.not_le] at h)) | (first | (((with_reducible refine Ok.bind (bent_loop _ _ _ _ _ _ _ ?_ ?_ ?_ ?_ ?_ _ _ _ _ _ (by assumption) ?_ ?_ ?_ ?_ ?_ ?_ ?_ ?_ ?_ ?_) ?_); (next => ((repeat' (first | dsimp only [gi_c0, gi_cs, gl_c0, gl_cs, gi_v0] | with_reducible assumption | with_reducible exact wrI _ | (unfold I64; constructor <;> omega) | omega | (simp only [List.length_set, List.length_append, List.length_cons, List.length_nil, List.length_take, List.length_drop]; omega) | with_reducible refine LW.set' ?_ _ ?_ | with_reducible refine LW.snoc ?_ ?_ ?_ | with_reducible refine LW.takeL ?_ _ | with_reducible refine LW.dropL ?_ _ | with_reducible refine W_int.mk ?_ | assumption)); done)); (next => ((repeat' (first | dsimp only [gi_c0, gi_cs, gl_c0, gl_cs, gi_v0] | with_reducible assumption | with_reducible exact wrI _ | (unfold I64; constructor <;> omega) | omega | (simp only [List.length_set, List.length_append, List.length_cons, List.length_nil, List.length_take, List.length_drop]; omega) | with_reducible refine LW.set' ?_ _ ?_ | with_reducible refine LW.snoc ?_ ?_ ?_ | with_reducible refine LW.takeL ?_ _ | with_reducible refine LW.dropL ?_ _ | with_reducible refine W_int.mk ?_ | assumption)); done)); (next => ((repeat' (first | dsimp only [gi_c0, gi_cs, gl_c0, gl_cs, gi_v0] | with_reducible assumption | with_reducible exact wrI _ | (unfold I64; constructor <;> omega) | omega | (simp only [List.length_set, List.length_append, List.length_cons, List.length_nil, List.length_take, List.length_drop]; omega) | with_reducible refine LW.set' ?_ _ ?_ | with_reducible refine LW.snoc ?_ ?_ ?_ | with_reducible refine LW.takeL ?_ _ | with_reducible refine LW.dropL ?_ _ | with_reducible refine W_int.mk ?_ | assumption)); done)); (next => ((repeat' (first | dsimp only [gi_c0, gi_cs, gl_c0, gl_cs, gi_v0] | with_reducible assumption | with_reducible exact wrI _ | (unfold I64; constructor <;> omega) | omega | (simp only [List.length_set, List.length_append, List.length_cons, List.length_nil, List.length_take, List.length_drop]; omega) | with_reducible refine LW.set' ?_ _ ?_ | with_reducible refine LW.snoc ?_ ?_ ?_ | with_reducible refine LW.takeL ?_ _ | with_reducible refine LW.dropL ?_ _ | with_reducible refine W_int.mk ?_ | assumption)); done)); (next => ((repeat' (first | dsimp only [gi_c0, gi_cs, gl_c0, gl_cs, gi_v0] | with_reducible assumption | with_reducible exact wrI _ | (unfold I64; constructor <;> omega) | omega | (simp only [List.length_set, List.length_append, List.length_cons, List.length_nil, List.length_take, List.length_drop]; omega) | with_reducible refine LW.set' ?_ _ ?_ | with_reducible refine LW.snoc ?_ ?_ ?_ | with_reducible refine LW.takeL ?_ _ | with_reducible refine LW.dropL ?_ _ | with_reducible refine W_int.mk ?_ | assumption)); done)); (next => ((repeat' (first | dsimp only [gi_c0, gi_cs, gl_c0, gl_cs, gi_v0] | with_reducible assumption | with_reducible exact wrI _ | (unfold I64; constructor <;> omega) | omega | (simp only [List.length_set, List.length_append, List.length_cons, List.length_nil, List.length_take, List.length_drop]; omega) | with_reducible refine LW.set' ?_ _ ?_ | with_reducible refine LW.snoc ?_ ?_ ?_ | with_reducible refine LW.takeL ?_ _ | with_reducible refine LW.dropL ?_ _ | with_reducible refine W_int.mk ?_ | assumption)); done)); (next => ((repeat' (first | dsimp only [gi_c0, gi_cs, gl_c0, gl_cs, gi_v0] | with_reducible assumption | with_reducible exact wrI _ | (unfold I64; constructor <;> omega) | omega | (simp only [List.length_set, List.length_append, List.length_cons, List.length_nil, List.length_take, List.length_drop]; omega) | with_reducible refine LW.set' ?_ _ ?_ | with_reducible refine LW.snoc ?_ ?_ ?_ | with_reducible refine LW.takeL ?_ _ | with_reducible refine LW.dropL ?_ _ | with_reducible refine W_int.mk ?_ | assumption)); done)); (next => ((repeat' (first | dsimp only [gi_c0, gi_cs, gl_c0, gl_cs, gi_v0] | with_reducible assumption | with_reducible exact wrI _ | (unfold I64; constructor <;> omega) | omega | (simp only [List.length_set, List.length_append, List.length_cons, List.length_nil, List.length_take, List.length_drop]; omega) | with_reducible refine LW.set' ?_ _ ?_ | with_reducible refine LW.snoc ?_ ?_ ?_ | with_reducible refine LW.takeL ?_ _ | with_reducible refine LW.dropL ?_ _ | with_reducible refine W_int.mk ?_ | assumption)); done)); (next => ((repeat' (first | dsimp only [gi_c0, gi_cs, gl_c0, gl_cs, gi_v0] | with_reducible assumption | with_reducible exact wrI _ | (unfold I64; constructor <;> omega) | omega | (simp only [List.length_set, List.length_append, List.length_cons, List.length_nil, List.length_take, List.length_drop]; omega) | with_reducible refine LW.set' ?_ _ ?_ | with_reducible refine LW.snoc ?_ ?_ ?_ | with_reducible refine LW.takeL ?_ _ | with_reducible refine LW.dropL ?_ _ | with_reducible refine W_int.mk ?_ | assumption)); done)); (next => ((repeat' (first | dsimp only [gi_c0, gi_cs, gl_c0, gl_cs, gi_v0] | with_reducible assumption | with_reducible exact wrI _ | (unfold I64; constructor <;> omega) | omega | (simp only [List.length_set, List.length_append, List.length_cons, List.length_nil, List.length_take, List.length_drop]; omega) | with_reducible refine LW.set' ?_ _ ?_ | with_reducible refine LW.snoc ?_ ?_ ?_ | with_reducible refine LW.takeL ?_ _ | with_reducible refine LW.dropL ?_ _ | with_reducible refine W_int.mk ?_ | assumption)); done)); (next => ((repeat' (first | dsimp only [gi_c0, gi_cs, gl_c0, gl_cs, gi_v0] | with_reducible assumption | with_reducible exact wrI _ | (unfold I64; constructor <;> omega) | omega | (simp only [List.length_set, List.length_append, List.length_cons, List.length_nil, List.length_take, List.length_drop]; omega) | with_reducible refine LW.set' ?_ _ ?_ | with_reducible refine LW.snoc ?_ ?_ ?_ | with_reducible refine LW.takeL ?_ _ | with_reducible refine LW.dropL ?_ _ | with_reducible refine W_int.mk ?_ | assumption)); done)); (next => ((repeat' (first | dsimp only [gi_c0, gi_cs, gl_c0, gl_cs, gi_v0] | with_reducible assumption | with_reducible exact wrI _ | (unfold I64; constructor <;> omega) | omega | (simp only [List.length_set, List.length_append, List.length_cons, List.length_nil, List.length_take, List.length_drop]; omega) | with_reducible refine LW.set' ?_ _ ?_ | with_reducible refine LW.snoc ?_ ?_ ?_ | with_reducible refine LW.takeL ?_ _ | with_reducible refine LW.dropL ?_ _ | with_reducible refine W_int.mk ?_ | assumption)); done)); (next => ((repeat' (first | dsimp only [gi_c0, gi_cs, gl_c0, gl_cs, gi_v0] | with_reducible assumption | with_reducible exact wrI _ | (unfold I64; constructor <;> omega) | omega | (simp only [List.length_set, List.length_append, List.length_cons, List.length_nil, List.length_take, List.length_drop]; omega) | with_reducible refine LW.set' ?_ _ ?_ | with_reducible refine LW.snoc ?_ ?_ ?_ | with_reducible refine LW.takeL ?_ _ | with_reducible refine LW.dropL ?_ _ | with_reducible refine W_int.mk ?_ | assumption)); done)); (next => ((repeat' (first | dsimp only [gi_c0, gi_cs, gl_c0, gl_cs, gi_v0] | with_reducible assumption | with_reducible exact wrI _ | (unfold I64; constructor <;> omega) | omega | (simp only [List.length_set, List.length_append, List.length_cons, List.length_nil, List.length_take, List.length_drop]; omega) | with_reducible refine LW.set' ?_ _ ?_ | with_reducible refine LW.snoc ?_ ?_ ?_ | with_reducible refine LW.takeL ?_ _ | with_reducible refine LW.dropL ?_ _ | with_reducible refine W_int.mk ?_ | assumption)); done)); (next => ((repeat' (first | dsimp only [gi_c0, gi_cs, gl_c0, gl_cs, gi_v0] | with_reducible assumption | with_reducible exact wrI _ | (unfold I64; constructor <;> omega) | omega | (simp only [List.length_set, List.length_append, List.length_cons, List.length_nil, List.length_take, List.length_drop]; omega) | with_reducible refine LW.set' ?_ _ ?_ | with_reducible refine LW.snoc ?_ ?_ ?_ | with_reducible refine LW.takeL ?_ _ | with_reducible refine LW.dropL ?_ _ | with_reducible refine W_int.mk ?_ | assumption)); done)); rintro _ ⟨_, _, _, _, _, _, _, _, _, _, _, _, _, _, _⟩)) | (((with_reducible refine Ok.bind2 (node_O (by assumption) (by assumption) (by assumption)) ?_); rintro _ _ ⟨_, ⟨_, _, _, _, _, _, _, _, _, _, _, _, _, _⟩, _, _⟩)) | (((with_reducible refine Ok.bind (node_loop (by assumption) (by assumption) _ _ _ _ _ _ ?_ ?_ ?_ _ _ _ _ _ _ _ (by assumption) ?_ ?_ ?_ ?_ ?_ ?_ ?_ ?_ ?_ ?_ ?_ ?_ ?_ ?_) ?_); (next => ((repeat' (first | dsimp only [gi_c0, gi_cs, gl_c0, gl_cs, gi_v0] | with_reducible assumption | with_reducible exact wrI _ | (unfold I64; constructor <;> omega) | omega | (simp only [List.length_set, List.length_append, List.length_cons, List.length_nil, List.length_take, List.length_drop]; omega) | with_reducible refine LW.set' ?_ _ ?_ | with_reducible refine LW.snoc ?_ ?_ ?_ | with_reducible refine LW.takeL ?_ _ | with_reducible refine LW.dropL ?_ _ | with_reducible refine W_int.mk ?_ | assumption)); done)); (next => ((repeat' (first | dsimp only [gi_c0, gi_cs, gl_c0, gl_cs, gi_v0] | with_reducible assumption | with_reducible exact wrI _ | (unfold I64; constructor <;> omega) | omega | (simp only [List.length_set, List.length_append, List.length_cons, List.length_nil, List.length_take, List.length_drop]; omega) | with_reducible refine LW.set' ?_ _ ?_ | with_reducible refine LW.snoc ?_ ?_ ?_ | with_reducible refine LW.takeL ?_ _ | with_reducible refine LW.dropL ?_ _ | with_reducible refine W_int.mk ?_ | assumption)); done)); (next => ((repeat' (first | dsimp only [gi_c0, gi_cs, gl_c0, gl_cs, gi_v0] | with_reducible assumption | with_reducible exact wrI _ | (unfold I64; constructor <;> omega) | omega | (simp only [List.length_set, List.length_append, List.length_cons, List.length_nil, List.length_take, List.length_drop]; omega) | with_reducible refine LW.set' ?_ _ ?_ | with_reducible refine LW.snoc ?_ ?_ ?_ | with_reducible refine LW.takeL ?_ _ | with_reducible refine LW.dropL ?_ _ | with_reducible refine W_int.mk ?_ | assumption)); done)); (next => ((repeat' (first | dsimp only [gi_c0, gi_cs, gl_c0, gl_cs, gi_v0] | with_reducible assumption | with_reducible exact wrI _ | (unfold I64; constructor <;> omega) | omega | (simp only [List.length_set, List.length_append, List.length_cons, List.length_nil, List.length_take, List.length_drop]; omega) | with_reducible refine LW.set' ?_ _ ?_ | with_reducible refine LW.snoc ?_ ?_ ?_ | with_reducible refine LW.takeL ?_ _ | with_reducible refine LW.dropL ?_ _ | with_reducible refine W_int.mk ?_ | assumption)); done)); (next => ((repeat' (first | dsimp only [gi_c0, gi_cs, gl_c0, gl_cs, gi_v0] | with_reducible assumption | with_reducible exact wrI _ | (unfold I64; constructor <;> omega) | omega | (simp only [List.length_set, List.length_append, List.length_cons, List.length_nil, List.length_take, List.length_drop]; omega) | with_reducible refine LW.set' ?_ _ ?_ | with_reducible refine LW.snoc ?_ ?_ ?_ | with_reducible refine LW.takeL ?_ _ | with_reducible refine LW.dropL ?_ _ | with_reducible refine W_int.mk ?_ | assumption)); done)); (next => ((repeat' (first | dsimp only [gi_c0, gi_cs, gl_c0, gl_cs, gi_v0] | with_reducible assumption | with_reducible exact wrI _ | (unfold I64; constructor <;> omega) | omega | (simp only [List.length_set, List.length_append, List.length_cons, List.length_nil, List.length_take, List.length_drop]; omega) | with_reducible refine LW.set' ?_ _ ?_ | with_reducible refine LW.snoc ?_ ?_ ?_ | with_reducible refine LW.takeL ?_ _ | with_reducible refine LW.dropL ?_ _ | with_reducible refine W_int.mk ?_ | assumption)); done)); (next => ((repeat' (first | dsimp only [gi_c0, gi_cs, gl_c0, gl_cs, gi_v0] | with_reducible assumption | with_reducible exact wrI _ | (unfold I64; constructor <;> omega) | omega | (simp only [List.length_set, List.length_append, List.length_cons, List.length_nil, List.length_take, List.length_drop]; omega) | with_reducible refine LW.set' ?_ _ ?_ | with_reducible refine LW.snoc ?_ ?_ ?_ | with_reducible refine LW.takeL ?_ _ | with_reducible refine LW.dropL ?_ _ | with_reducible refine W_int.mk ?_ | assumption)); done)); (next => ((repeat' (first | dsimp only [gi_c0, gi_cs, gl_c0, gl_cs, gi_v0] | with_reducible assumption | with_reducible exact wrI _ | (unfold I64; constructor <;> omega) | omega | (simp only [List.length_set, List.length_append, List.length_cons, List.length_nil, List.length_take, List.length_drop]; omega) | with_reducible refine LW.set' ?_ _ ?_ | with_reducible refine LW.snoc ?_ ?_ ?_ | with_reducible refine LW.takeL ?_ _ | with_reducible refine LW.dropL ?_ _ | with_reducible refine W_int.mk ?_ | assumption)); done)); (next => ((repeat' (first | dsimp only [gi_c0, gi_cs, gl_c0, gl_cs, gi_v0] | with_reducible assumption | with_reducible exact wrI _ | (unfold I64; constructor <;> omega) | omega | (simp only [List.length_set, List.length_append, List.length_cons, List.length_nil, List.length_take, List.length_drop]; omega) | with_reducible refine LW.set' ?_ _ ?_ | with_reducible refine LW.snoc ?_ ?_ ?_ | with_reducible refine LW.takeL ?_ _ | with_reducible refine LW.dropL ?_ _ | with_reducible refine W_int.mk ?_ | assumption)); done)); (next => ((repeat' (first | dsimp only [gi_c0, gi_cs, gl_c0, gl_cs, gi_v0] | with_reducible assumption | with_reducible exact wrI _ | (unfold I64; constructor <;> omega) | omega | (simp only [List.length_set, List.length_append, List.length_cons, List.length_nil, List.length_take, List.length_drop]; omega) | with_reducible refine LW.set' ?_ _ ?_ | with_reducible refine LW.snoc ?_ ?_ ?_ | with_reducible refine LW.takeL ?_ _ | with_reducible refine LW.dropL ?_ _ | with_reducible refine W_int.mk ?_ | assumption)); done)); (next => ((repeat' (first | dsimp only [gi_c0, gi_cs, gl_c0, gl_cs, gi_v0] | with_reducible assumption | with_reducible exact wrI _ | (unfold I64; constructor <;> omega) | omega | (simp only [List.length_set, List.length_append, List.length_cons, List.length_nil, List.length_take, List.length_drop]; omega) | with_reducible refine LW.set' ?_ _ ?_ | with_reducible refine LW.snoc ?_ ?_ ?_ | with_reducible refine LW.takeL ?_ _ | with_reducible refine LW.dropL ?_ _ | with_reducible refine W_int.mk ?_ | assumption)); done)); (next => ((repeat' (first | dsimp only [gi_c0, gi_cs, gl_c0, gl_cs, gi_v0] | with_reducible assumption | with_reducible exact wrI _ | (unfold I64; constructor <;> omega) | omega | (simp only [List.length_set, List.length_append, List.length_cons, List.length_nil, List.length_take, List.length_drop]; omega) | with_reducible refine LW.set' ?_ _ ?_ | with_reducible refine LW.snoc ?_ ?_ ?_ | with_reducible refine LW.takeL ?_ _ | with_reducible refine LW.dropL ?_ _ | with_reducible refine W_int.mk ?_ | assumption)); done)); (next => ((repeat' (first | dsimp only [gi_c0, gi_cs, gl_c0, gl_cs, gi_v0] | with_reducible assumption | with_reducible exact wrI _ | (unfold I64; constructor <;> omega) | omega | (simp only [List.length_set, List.length_append, List.length_cons, List.length_nil, List.length_take, List.length_drop]; omega) | with_reducible refine LW.set' ?_ _ ?_ | with_reducible refine LW.snoc ?_ ?_ ?_ | with_reducible refine LW.takeL ?_ _ | with_reducible refine LW.dropL ?_ _ | with_reducible refine W_int.mk ?_ | assumption)); done)); (next => ((repeat' (first | dsimp only [gi_c0, gi_cs, gl_c0, gl_cs, gi_v0] | with_reducible assumption | with_reducible exact wrI _ | (unfold I64; constructor <;> omega) | omega | (simp only [List.length_set, List.length_append, List.length_cons, List.length_nil, List.length_take, List.length_drop]; omega) | with_reducible refine LW.set' ?_ _ ?_ | with_reducible refine LW.snoc ?_ ?_ ?_ | with_reducible refine LW.takeL ?_ _ | with_reducible refine LW.dropL ?_ _ | with_reducible refine W_int.mk ?_ | assumption)); done)); (next => ((repeat' (first | dsimp only [gi_c0, gi_cs, gl_c0, gl_cs, gi_v0] | with_reducible assumption | with_reducible exact wrI _ | (unfold I64; constructor <;> omega) | omega | (simp only [List.length_set, List.length_append, List.length_cons, List.length_nil, List.length_take, List.length_drop]; omega) | with_reducible refine LW.set' ?_ _ ?_ | with_reducible refine LW.snoc ?_ ?_ ?_ | with_reducible refine LW.takeL ?_ _ | with_reducible refine LW.dropL ?_ _ | with_reducible refine W_int.mk ?_ | assumption)); done)); (next => ((repeat' (first | dsimp only [gi_c0, gi_cs, gl_c0, gl_cs, gi_v0] | with_reducible assumption | with_reducible exact wrI _ | (unfold I64; constructor <;> omega) | omega | (simp only [List.length_set, List.length_append, List.length_cons, List.length_nil, List.length_take, List.length_drop]; omega) | with_reducible refine LW.set' ?_ _ ?_ | with_reducible refine LW.snoc ?_ ?_ ?_ | with_reducible refine LW.takeL ?_ _ | with_reducible refine LW.dropL ?_ _ | with_reducible refine W_int.mk ?_ | assumption)); done)); (next => ((repeat' (first | dsimp only [gi_c0, gi_cs, gl_c0, gl_cs, gi_v0] | with_reducible assumption | with_reducible exact wrI _ | (unfold I64; constructor <;> omega) | omega | (simp only [List.length_set, List.length_append, List.length_cons, List.length_nil, List.length_take, List.length_drop]; omega) | with_reducible refine LW.set' ?_ _ ?_ | with_reducible refine LW.snoc ?_ ?_ ?_ | with_reducible refine LW.takeL ?_ _ | with_reducible refine LW.dropL ?_ _ | with_reducible refine W_int.mk ?_ | assumption)); done)); rintro _ ⟨_, _, _, _, _, _, _, _, _, _, _, _, _, _, _, _, _⟩)) | (((with_reducible refine Ok.bind (termAt_O ?_ _) ?_); (next => assumption); rintro _ _)) | (((with_reducible refine Ok.bind2 (drawLog_O (by assumption) ?_ ?_) ?_); (next => dsimp only; omega); (next => dsimp only; omega); rintro _ _ ⟨_, _, _⟩)) | (((with_reducible refine Ok.bind (newN_O _ (by assumption) (by assumption)) ?_); rintro _ ⟨_, _, _, _, _, _, _⟩)) | (((with_reducible refine Ok.bind2 (drawItem_O (by assumption) ?_) ?_); (next => first | assumption | with_reducible exact wrI _ | ((unfold I64; constructor <;> omega))); rintro _ _ ⟨_, _⟩)) | (((with_reducible refine Ok.bind2 (op_O (by assumption) _) ?_); rintro _ _ ⟨_, _, _, _, _⟩)) | (((with_reducible refine Ok.bind2 (drawKey_O (by assumption)) ?_); rintro _ _ ⟨_, _⟩)) | (((with_reducible refine Ok.bind2 (drawVal_O (by assumption)) ?_); rintro _ _ ⟨_, _⟩)) | (((with_reducible refine Ok.bind2 (pick_P (by assumption) ?_ ?_) ?_); (next => exact Nat.succ_pos _); (next => repeat' (first | trivial | ((repeat' (first | dsimp only [gi_c0, gi_cs, gl_c0, gl_cs, gi_v0] | with_reducible assumption | with_reducible exact wrI _ | (unfold I64; constructor <;> omega) | omega | (simp only [List.length_set, List.length_append, List.length_cons, List.length_nil, List.length_take, List.length_drop]; omega) | with_reducible refine LW.set' ?_ _ ?_ | with_reducible refine LW.snoc ?_ ?_ ?_ | with_reducible refine LW.takeL ?_ _ | with_reducible refine LW.dropL ?_ _ | with_reducible refine W_int.mk ?_ | assumption)); done) | refine And.intro ?_ ?_)); rintro _ _ ⟨_, _⟩)) | (((with_reducible refine Ok.bind2 (once_P (by assumption) _) ?_); rintro _ _ _)) | (((with_reducible refine Ok.bind2 (below_P (by assumption) _) ?_); rintro _ _ ⟨_, _, _, _⟩))) | with_reducible refine Ok.ret ?_))))
  all_goals (refine ⟨by assumption, ?_, ?_, ?_, ?_, ?_, ?_, ?_, ?_, ?_, ?_, ?_, ?_, ?_, ?_⟩ <;> first | ((repeat' (first | dsimp only [gi_c0, gi_cs, gl_c0, gl_cs, gi_v0] | with_reducible assumption | with_reducible exact wrI _ | (unfold I64; constructor <;> omega) | omega | (simp only [List.length_set, List.length_append, List.length_cons, List.length_nil, List.length_take, List.length_drop]; omega) | with_reducible refine LW.set' ?_ _ ?_ | with_reducible refine LW.snoc ?_ ?_ ?_ | with_reducible refine LW.takeL ?_ _ | with_reducible refine LW.dropL ?_ _ | with_reducible refine W_int.mk ?_ | assumption)); done) | exact Nat.le_trans (by assumption) (by decide : 5 ≤ 10) | exact Nat.le_trans (by assumption) (by decide : 396 + 5 ≤ 396 + 10) | (refine LW.snoc ?_ ?_ ?_ <;> ((repeat' (first | dsimp only [gi_c0, gi_cs, gl_c0, gl_cs, gi_v0] | with_reducible assumption | with_reducible exact wrI _ | (unfold I64; constructor <;> omega) | omega | (simp only [List.length_set, List.length_append, List.length_cons, List.length_nil, List.length_take, List.length_drop]; omega) | with_reducible refine LW.set' ?_ _ ?_ | with_reducible refine LW.snoc ?_ ?_ ?_ | with_reducible refine LW.takeL ?_ _ | with_reducible refine LW.dropL ?_ _ | with_reducible refine W_int.mk ?_ | assumption)); done)) | skip)
end Go.Eng.R
open Go Go.Eng
namespace Go.Eng.R
def chB (x : V) : Bool := !decide (gi x 0 < 97) && !decide (122 < gi x 0) || decide (gi x 0 = 47)
theorem all_take_succ {p : V → Bool} {l : List V} {i : Nat} (h : i < l.length) : (l.take (i + 1)).all p = ((l.take i).all p && p (rd l i)) := by
  rw [List.take_add_one, List.all_append]
  have : l[i]? = some (rd l i) := by simp [rd, List.getD, h]
  rw [this]; simp
theorem all_rd_false {p : V → Bool} {l : List V} {i : Nat} (h : i < l.length) (hp : p (rd l i) = false) : l.all p = false := by
  rw [List.all_eq_false]
  refine ⟨rd l i, ?_, by simp [hp]⟩
  have : rd l i = l[i] := by simp [rd, List.getD, h]
  rw [this]; exact List.getElem_mem h
theorem all_loop {ρ : Type} {F : Nat → Int → ρ} {l : List V} {p : V → Bool} {yes no : ρ}
    (h1 : ∀ m (i : Nat), i < l.length → F (m + 1) (i : Int) = bif p (rd l i) then F m ((i + 1 : Nat) : Int) else no) (h0 : ∀ m, F (m + 1) (l.length : Int) = yes) :
    F (l.length + 1) 0 = bif l.all p then yes else no := by
  refine loop_run0 (F := fun m (_ : Unit) i => F m i) (n := l.length) (fun i _ => (l.take i).all p = true) (fun o => o = bif l.all p then yes else no) ?_ ?_ (s := ()) (by simp)
  · intro m i s hi hI
    rw [h1 m i hi]
    cases hp : p (rd l i) with
    | true => exact .inl ⟨(), rfl, by rw [all_take_succ hi, hI, hp]; rfl⟩
    | false => exact .inr (by rw [all_rd_false hi hp]; rfl)
  · intro m s hI
    rw [List.take_length] at hI
    rw [hI]; exact h0 m
def keyB (b : List V) : Bool := decide (1 ≤ b.length) && (decide (b.length ≤ 20) && b.all chB)
theorem spec_l2key_eq {b : List V} (hb : LW W_byte b) : spec_l2key b = some (keyB b) := by
  have hl := hb.1
  unfold spec_l2key keyB
  by_cases h1 : 1 ≤ b.length
  · by_cases h2 : b.length ≤ 20
    · rw [show decide (((b.length : Nat) : Int) < 1) = false from by simp; omega, show decide ((20 : Int) < ((b.length : Nat) : Int)) = false from by simp; omega, cond_false, cond_false, fuel_eq,
        all_loop (F := fun m i => spec_l2key_l4 m b i) (l := b) (p := chB) (yes := some (1, false)) (no := some (0, false)) ?_ ?_]
      · simp only [h1, h2, decide_true, Bool.true_and]
        cases b.all chB <;> rfl
      · intro m i hi
        simp only [spec_l2key_l4, lt_nat hi, idxOk_nat hi, Int.toNat_natCast, cond_true, wr_succ hi hl, chB]
        cases decide (gi (rd b i) 0 < 97) <;> cases decide (122 < gi (rd b i) 0) <;> cases decide (gi (rd b i) 0 = 47) <;> rfl
      · intro m; simp only [spec_l2key_l4, lt_self, cond_false]
    · rw [show decide (((b.length : Nat) : Int) < 1) = false from by simp; omega, show decide ((20 : Int) < ((b.length : Nat) : Int)) = true from by simp; omega]
      simp [h2]
  · rw [show decide (((b.length : Nat) : Int) < 1) = true from by simp; omega]
    simp [h1]
theorem within_eq (n lo hi : Int) : impl_within n lo hi = decide (lo ≤ n ∧ n ≤ hi) := by
  unfold impl_within
  by_cases h : lo ≤ n <;> simp [h]
theorem impl_KeyOk_eq {b : List V} (hb : LW W_byte b) : impl_KeyOk b = some (keyB b) := by
  have hl := hb.1
  unfold impl_KeyOk keyB
  rw [fuel_eq, all_loop (F := fun m i => impl_KeyOk_l2 m b b ((b.length : Nat) : Int) i) (l := b) (p := chB) (yes := some (1, b, false)) (no := some (0, b, false)) ?_ ?_]
  · cases b.all chB with
    | true => simp only [cond_true, Option.bind_some, within_eq]; simp [Nat.beq]; by_cases h1 : 1 ≤ b.length <;> by_cases h2 : b.length ≤ 20 <;> simp [h1, h2] <;> omega
    | false => simp [Nat.beq]
  · intro m i hi
    simp only [impl_KeyOk_l2, lt_nat hi, idxOk_nat hi, Int.toNat_natCast, cond_true, wr_succ hi hl, chB]
    cases decide (gi (rd b i) 0 < 97) <;> cases decide (122 < gi (rd b i) 0) <;> cases decide (gi (rd b i) 0 = 47) <;> rfl
  · intro m; simp only [impl_KeyOk_l2, lt_self, cond_false]
def opB (k : Int) (key : Bool) (nk nv : Nat) (n : Int) : Bool :=
  decide (nv ≤ 20) && (decide (0 ≤ n ∧ n ≤ 1000000) &&
    (bif decide (k = 1 ∨ k = 2 ∨ k = 3 ∨ k = 6 ∨ k = 7) then key else decide (nk = 0)) &&
    ((bif decide (k = 1 ∨ k = 2 ∨ k = 6) then true else decide (nv = 0)) &&
    ((bif decide (k = 0 ∨ k = 1 ∨ k = 3) then decide (n = 0) else bif decide (k = 4) then decide (n ≤ 1) else bif decide (k = 2) then true else decide (1 ≤ n)) && decide (0 ≤ k ∧ k ≤ 7))))
theorem impl_OpOk_eq {o : V} (ho : W_Op o) : impl_OpOk o = some (opB (gi o 0) (keyB (gl o 1)) (gl o 1).length (gl o 2).length (gi o 3)) := by
  unfold impl_OpOk
  rw [impl_KeyOk_eq ho.2.1]
  simp only [within_eq, impl_isValue, Option.bind_some]
  generalize gi o 0 = k
  generalize keyB (gl o 1) = key
  generalize (gl o 1).length = nk
  generalize (gl o 2).length = nv
  generalize gi o 3 = n
  by_cases hk : 0 ≤ k ∧ k ≤ 7
  · obtain rfl | rfl | rfl | rfl | rfl | rfl | rfl | rfl : k = 0 ∨ k = 1 ∨ k = 2 ∨ k = 3 ∨ k = 4 ∨ k = 5 ∨ k = 6 ∨ k = 7 := by omega
    all_goals (cases key <;> simp [opB, Bool.cond_eq_ite] <;> (repeat' split) <;> simp_all <;> first | omega | (rw [Bool.eq_iff_iff]; simp; omega))
  · have hh : decide (0 ≤ k ∧ k ≤ 7) = false := by simpa using hk
    have h0 : decide (k = 0) = false := by simp; omega
    have h1 : decide (k = 1) = false := by simp; omega
    have h2 : decide (k = 2) = false := by simp; omega
    have h3 : decide (k = 3) = false := by simp; omega
    have h4 : decide (k = 4) = false := by simp; omega
    have h5 : decide (k = 5) = false := by simp; omega
    have h6 : decide (k = 6) = false := by simp; omega
    have h7 : decide (k = 7) = false := by simp; omega
    simp only [opB, hh, h0, h1, h2, h3, h4, h5, h6, h7, cond_false, Bool.and_false]
theorem spec_OpOk_eq {o : V} (ho : W_Op o) : spec_OpOk o = some (opB (gi o 0) (keyB (gl o 1)) (gl o 1).length (gl o 2).length (gi o 3)) := by
  unfold spec_OpOk
  rw [spec_l2key_eq ho.2.1]
  simp only [spec_l2val, spec_l2index, Option.bind_some]
  generalize gi o 0 = k
  generalize keyB (gl o 1) = key
  generalize (gl o 1).length = nk
  generalize (gl o 2).length = nv
  generalize gi o 3 = n
  by_cases hk : 0 ≤ k ∧ k ≤ 7
  · obtain rfl | rfl | rfl | rfl | rfl | rfl | rfl | rfl : k = 0 ∨ k = 1 ∨ k = 2 ∨ k = 3 ∨ k = 4 ∨ k = 5 ∨ k = 6 ∨ k = 7 := by omega
    all_goals (cases key <;> simp [opB, Bool.cond_eq_ite] <;> (repeat' split) <;> simp_all <;> omega)
  · have hh : decide (0 ≤ k ∧ k ≤ 7) = false := by simpa using hk
    simp only [opB, hh, Bool.and_false]
    by_cases h : k < 0
    · simp [h]
    · rw [show decide (k < 0) = false from by simpa using h, show decide (7 < k) = true from by simp; omega]; rfl
def cmdB (c : V) : Bool :=
  bif decide (gi c 0 = -1) then decide (gi c 1 = 0) && (decide (gi c 2 = 0) && opB (gi c 2) (keyB (gl c 3)) (gl c 3).length (gl c 4).length (gi c 5))
  else decide (0 ≤ gi c 0 ∧ gi c 0 ≤ 3) && (decide (1 ≤ gi c 1 ∧ gi c 1 ≤ 1000000) && opB (gi c 2) (keyB (gl c 3)) (gl c 3).length (gl c 4).length (gi c 5))
theorem spec_CmdOk_eq {c : V} (hc : W_Cmd c) : spec_CmdOk c = some (cmdB c) := by
  unfold spec_CmdOk
  rw [spec_OpOk_eq (o := V.agg [(V.int .i64 (gi c 2)), (V.inl t_byte (gl c 3)), (V.inl t_byte (gl c 4)), (V.int .i64 (gi c 5))]) hc.2.2]
  simp only [Option.bind_some, gi_c0, gi_cs, gl_c0, gl_cs, cmdB]
  generalize opB _ _ _ _ _ = z
  by_cases h1 : gi c 0 = -1
  · simp only [h1, decide_true, cond_true]
    by_cases h2 : gi c 1 = 0 <;> by_cases h3 : gi c 2 = 0 <;> simp [h2, h3]
  · simp only [h1, decide_false, cond_false]
    by_cases h2 : 0 ≤ gi c 0 <;> by_cases h3 : gi c 0 < 4 <;> by_cases h4 : 1 ≤ gi c 1 <;> by_cases h5 : gi c 1 ≤ 1000000 <;> simp [h2, h3, h4, h5] <;> omega
theorem eqList_nil (l : List V) : eqList (l.map normB) [] = decide (l.length = 0) := by cases l <;> simp [eqList]
theorem impl_same_noOp (c : V) : impl_Cmd_same (n_impl_Cmd c) (n_impl_Cmd impl_noOp) = (decide (gi c 0 = -1) && (decide (gi c 1 = 0) && (decide (gi c 2 = 0) && (decide ((gl c 3).length = 0) && (decide ((gl c 4).length = 0) && decide (gi c 5 = 0)))))) := by
  simp only [impl_Cmd_same, impl_Op_same, impl_noOp, n_impl_Cmd, gi_c0, gi_cs, gl_c0, gl_cs, bytes_Equal, List.map_nil, eqList_nil]
  by_cases h0 : gi c 0 = -1 <;> by_cases h1 : gi c 1 = 0 <;> by_cases h2 : gi c 2 = 0 <;> by_cases h3 : (gl c 3).length = 0 <;> by_cases h4 : (gl c 4).length = 0 <;> simp [h0, h1, h2, h3, h4] <;> rfl
theorem impl_CmdOk_eq {c : V} (hc : W_Cmd c) : impl_CmdOk c = some (cmdB c) := by
  unfold impl_CmdOk
  rw [impl_OpOk_eq (o := V.agg [(V.int .i64 (gi c 2)), (V.inl t_byte (gl c 3)), (V.inl t_byte (gl c 4)), (V.int .i64 (gi c 5))]) hc.2.2, impl_same_noOp]
  simp only [Option.bind_some, gi_c0, gi_cs, gl_c0, gl_cs, cmdB, within_eq]
  by_cases h1 : gi c 0 = -1
  · simp only [h1, decide_true, cond_true, Bool.true_and]
    rw [show decide (0 ≤ (-1 : Int) ∧ (-1 : Int) ≤ 3) = false from rfl]
    by_cases h2 : gi c 1 = 0 <;> by_cases h3 : gi c 2 = 0 <;> simp only [h2, h3, decide_true, decide_false, Bool.true_and, Bool.false_and, cond_false]
    simp only [opB]
    by_cases a3 : (gl c 3).length = 0 <;> by_cases a4 : (gl c 4).length = 0 <;> by_cases a5 : gi c 5 = 0 <;> simp [a3, a4, a5]
  · simp only [h1, decide_false, cond_false, Bool.false_and]
    generalize opB _ _ _ _ _ = z
    by_cases h2 : 0 ≤ gi c 0 ∧ gi c 0 ≤ 3 <;> by_cases h3 : 1 ≤ gi c 1 ∧ gi c 1 ≤ 1000000 <;> simp [h2, h3]
def itemB (x : V) : Bool := decide (1 ≤ gi x 0 ∧ gi x 0 ≤ 100000) && cmdB (V.agg [(V.int .i64 (gi x 1)), (V.int .i64 (gi x 2)), (V.int .i64 (gi x 3)), (V.inl t_byte (gl x 4)), (V.inl t_byte (gl x 5)), (V.int .i64 (gi x 6))])
theorem spec_ItemOk_eq {x : V} (hx : W_Item x) : spec_ItemOk x = some (itemB x) := by
  unfold spec_ItemOk itemB
  rw [spec_CmdOk_eq (c := V.agg [(V.int .i64 (gi x 1)), (V.int .i64 (gi x 2)), (V.int .i64 (gi x 3)), (V.inl t_byte (gl x 4)), (V.inl t_byte (gl x 5)), (V.int .i64 (gi x 6))]) hx.2]
  by_cases h1 : 1 ≤ gi x 0 <;> by_cases h2 : gi x 0 ≤ 100000 <;> simp [h1, h2]
theorem impl_ItemOk_eq {x : V} (hx : W_Item x) : impl_ItemOk x = some (itemB x) := by
  unfold impl_ItemOk itemB impl_isTerm
  rw [impl_CmdOk_eq (c := V.agg [(V.int .i64 (gi x 1)), (V.int .i64 (gi x 2)), (V.int .i64 (gi x 3)), (V.inl t_byte (gl x 4)), (V.inl t_byte (gl x 5)), (V.int .i64 (gi x 6))]) hx.2, within_eq]
  by_cases h1 : 1 ≤ gi x 0 ∧ gi x 0 ≤ 100000 <;> simp [h1]
end Go.Eng.R
open Go Go.Eng
namespace Go.Eng.R
open Classical
theorem range_all_succ {p : Nat → Bool} {i : Nat} : (List.range (i + 1)).all p = ((List.range i).all p && p i) := by
  rw [List.range_succ, List.all_append]; simp
theorem range_all_false {p : Nat → Bool} {i n : Nat} (h : i < n) (hp : p i = false) : (List.range n).all p = false := by
  rw [List.all_eq_false]
  exact ⟨i, List.mem_range.2 h, by simp [hp]⟩
theorem all_run {σ ρ : Type} {F : Nat → σ → Int → ρ} {n : Nat} {p : Nat → Bool} {yes no : ρ} (I : Nat → σ → Prop)
    (h1 : ∀ m i s, i < n → I i s → (p i = true ∧ ∃ s', F (m + 1) s (i : Int) = F m s' ((i + 1 : Nat) : Int) ∧ I (i + 1) s') ∨ (p i = false ∧ F (m + 1) s (i : Int) = no))
    (h0 : ∀ m s, I n s → F (m + 1) s (n : Int) = yes) {s : σ} (hs : I 0 s) : F (n + 1) s 0 = bif (List.range n).all p then yes else no := by
  refine loop_run0 (F := F) (n := n) (fun i s => (List.range i).all p = true ∧ I i s) (fun o => o = bif (List.range n).all p then yes else no) ?_ ?_ (s := s) ⟨by simp, hs⟩
  · intro m i s hi hI
    rcases h1 m i s hi hI.2 with ⟨hp, s', e, hI'⟩ | ⟨hp, e⟩
    · exact .inl ⟨s', e, by rw [range_all_succ, hI.1, hp]; rfl, hI'⟩
    · exact .inr (by rw [e, range_all_false hi hp]; rfl)
  · intro m s hI
    rw [hI.1]; exact h0 m s hI.2
theorem all_range {ρ : Type} {F : Nat → Int → ρ} {n : Nat} {p : Nat → Bool} {yes no : ρ}
    (h1 : ∀ m i, i < n → F (m + 1) (i : Int) = bif p i then F m ((i + 1 : Nat) : Int) else no) (h0 : ∀ m, F (m + 1) (n : Int) = yes) : F (n + 1) 0 = bif (List.range n).all p then yes else no := by
  refine all_run (F := fun m (_ : Unit) i => F m i) (fun _ _ => True) (fun m i s hi _ => ?_) (fun m _ _ => h0 m) (s := ()) trivial
  have := h1 m i hi
  cases hp : p i with
  | true => exact .inl ⟨rfl, (), by rw [this, hp]; rfl, trivial⟩
  | false => exact .inr ⟨rfl, by rw [this, hp]; rfl⟩
theorem chk {c b : Bool} {rest : Option Bool} (h1 : c = true → b = false) (h2 : c = false → rest = some b) : (bif c then some false else rest) = some b := by
  cases c with
  | true => rw [h1 rfl]; rfl
  | false => exact h2 rfl
def logB (n : V) (i : Nat) : Bool := itemB (rd (gl n 3) i) && (decide (gi (rd (gl n 3) i) 0 ≤ gi n 1) && (decide (i = 0) || decide (gi (rd (gl n 3) (i - 1)) 0 ≤ gi (rd (gl n 3) i) 0)))
def cellB (n : V) (i : Nat) : Bool :=
  bif decide (gi n 5 = 2) then decide (1 ≤ gi (rd (gl n 9) i) 0 ∧ gi (rd (gl n 9) i) 0 ≤ ((gl n 3).length : Int) + 1) && decide (0 ≤ gi (rd (gl n 10) i) 0 ∧ gi (rd (gl n 10) i) 0 ≤ ((gl n 3).length : Int))
  else decide (gi (rd (gl n 9) i) 0 = 0) && decide (gi (rd (gl n 10) i) 0 = 0)
def voteB (n : V) (i : Nat) : Bool := !(decide (gi n 5 = 0)) || !(gb (rd (gl n 8) i) 0)
structure NodeP (n : V) (k : Int) : Prop where
  k1 : 1 ≤ k
  k5 : k ≤ 5
  id0 : 0 ≤ gi n 0
  idk : gi n 0 < k
  term0 : 0 ≤ gi n 1
  term1 : gi n 1 ≤ 100000
  vote0 : -1 ≤ gi n 2
  votek : gi n 2 < k
  lead0 : -1 ≤ gi n 6
  leadk : gi n 6 < k
  len : ((gl n 3).length : Int) ≤ 400
  com0 : 0 ≤ gi n 4
  com1 : gi n 4 ≤ ((gl n 3).length : Int)
  role0 : 0 ≤ gi n 5
  role2 : gi n 5 ≤ 2
  wait0 : 0 ≤ gi n 7
  wait1 : gi n 7 ≤ 20
  lvotes : ((gl n 8).length : Int) = k
  lnext : ((gl n 9).length : Int) = k
  lmatch : ((gl n 10).length : Int) = k
  items : (List.range (gl n 3).length).all (logB n) = true
  cells : (List.range (gl n 9).length).all (cellB n) = true
  votes : (List.range (gl n 8).length).all (voteB n) = true
  stands : gi n 5 ≠ 0 → 1 ≤ gi n 1 ∧ gi n 2 = gi n 0
  leads : gi n 5 = 2 → gi n 6 = gi n 0
noncomputable def nodeB (n : V) (k : Int) : Bool := decide (NodeP n k)
theorem nodeB_false {n : V} {k : Int} (h : NodeP n k → False) : nodeB n k = false := decide_eq_false h
theorem spec_log_run {n : V} (hn : W_Node n) (servers : Int) : spec_NodeOk_l4 ((gl n 3).length + 1) servers 0 (n_impl_Node n) =
    bif (List.range (gl n 3).length).all (logB n) then some (1, servers, false, n_impl_Node n) else some (0, servers, false, n_impl_Node n) := by
  have hl := hn.2.2.2.1.1
  refine all_range (F := fun m i => spec_NodeOk_l4 m servers i (n_impl_Node n)) (fun m i hi => ?_) (fun m => ?_)
  · have e : spec_ItemOk (n_impl_Item (rd (gl n 3) i)) = some (itemB (rd (gl n 3) i)) := spec_ItemOk_eq (x := n_impl_Item (rd (gl n 3) i)) (hn.2.2.2.1.rd hi)
    show spec_NodeOk_l4 (m + 1) servers i (n_impl_Node n) = _
    rw [spec_NodeOk_l4]
    simp only [show gl (n_impl_Node n) 3 = gl n 3 from rfl, show gi (n_impl_Node n) 1 = gi n 1 from rfl, lt_nat hi, idxOk_nat hi, Int.toNat_natCast, cond_true, e, Option.bind_some, logB, wr_succ hi hl]
    cases hit : itemB (rd (gl n 3) i) with
    | false => rfl
    | true =>
      simp only [Bool.not_true, cond_false, Bool.true_and]
      by_cases h1 : gi (rd (gl n 3) i) 0 ≤ gi n 1
      · rw [show decide (gi n 1 < gi (rd (gl n 3) i) 0) = false from by simp; omega, cond_false, decide_eq_true h1, Bool.true_and]
        cases i with
        | zero => simp; rfl
        | succ j =>
          have hj : j < (gl n 3).length := by omega
          have ew : IntKind.i64.wrap (((j + 1 : Nat) : Int) - 1) = ((j : Nat) : Int) := by rw [wr64' (by omega) (by omega)]; omega
          rw [show decide ((0 : Int) < ((j + 1 : Nat) : Int)) = true from decide_eq_true (by omega), cond_true, ew, idxOk_nat hj, cond_true, Int.toNat_natCast, show decide (j + 1 = 0) = false from by simp, Bool.false_or, Nat.add_sub_cancel]
          by_cases h2 : gi (rd (gl n 3) j) 0 ≤ gi (rd (gl n 3) (j + 1)) 0
          · rw [show decide (gi (rd (gl n 3) (j + 1)) 0 < gi (rd (gl n 3) j) 0) = false from by simp; omega, decide_eq_true h2]; rfl
          · rw [show decide (gi (rd (gl n 3) (j + 1)) 0 < gi (rd (gl n 3) j) 0) = true from by simp; omega, decide_eq_false h2]; rfl
      · rw [show decide (gi n 1 < gi (rd (gl n 3) i) 0) = true from by simp; omega, decide_eq_false h1]; rfl
  · show spec_NodeOk_l4 (m + 1) servers _ (n_impl_Node n) = _
    rw [spec_NodeOk_l4]
    simp only [show gl (n_impl_Node n) 3 = gl n 3 from rfl, lt_self, cond_false]
    rfl
theorem impl_log_run {n : V} (hn : W_Node n) (servers : Int) : impl_NodeOk_l5 ((gl n 3).length + 1) servers 1 (gl n 3) ((gl n 3).length : Int) 0 (n_impl_Node n) =
    bif (List.range (gl n 3).length).all (logB n) then some (1, servers, false, n_impl_Node n) else some (0, servers, false, n_impl_Node n) := by
  have hl := hn.2.2.2.1.1
  refine all_run (F := fun m t i => impl_NodeOk_l5 m servers t (gl n 3) ((gl n 3).length : Int) i (n_impl_Node n)) (fun i t => t = if i = 0 then 1 else gi (rd (gl n 3) (i - 1)) 0) (fun m i t hi ht => ?_) (fun m t ht => ?_) rfl
  · have e : impl_ItemOk (n_impl_Item (rd (gl n 3) i)) = some (itemB (rd (gl n 3) i)) := impl_ItemOk_eq (x := n_impl_Item (rd (gl n 3) i)) (hn.2.2.2.1.rd hi)
    have e0 : impl_NodeOk_l5 (m + 1) servers t (gl n 3) ((gl n 3).length : Int) i (n_impl_Node n) = bif (!(itemB (rd (gl n 3) i))) then some (0, servers, false, n_impl_Node n) else bif (!(decide (t ≤ gi (rd (gl n 3) i) 0 ∧ gi (rd (gl n 3) i) 0 ≤ gi n 1))) then some (0, servers, false, n_impl_Node n)
        else impl_NodeOk_l5 m servers (gi (rd (gl n 3) i) 0) (gl n 3) ((gl n 3).length : Int) ((i + 1 : Nat) : Int) (n_impl_Node n) := by
      rw [impl_NodeOk_l5]
      simp only [lt_nat hi, idxOk_nat hi, Int.toNat_natCast, cond_true, e, Option.bind_some, wr_succ hi hl, within_eq]
      rfl
    have hterm : itemB (rd (gl n 3) i) = true → 1 ≤ gi (rd (gl n 3) i) 0 := fun h => by
      simp only [itemB, Bool.and_eq_true, decide_eq_true_eq] at h; exact h.1.1
    cases hp : logB n i with
    | true =>
      refine .inl ⟨rfl, _, ?_, by simp; rfl⟩
      simp only [logB, Bool.and_eq_true, decide_eq_true_eq, Bool.or_eq_true] at hp
      obtain ⟨p1, p2, p3⟩ := hp
      rw [e0, p1]
      have : t ≤ gi (rd (gl n 3) i) 0 ∧ gi (rd (gl n 3) i) 0 ≤ gi n 1 := by
        refine ⟨?_, p2⟩
        subst ht
        have := hterm p1
        split
        · exact this
        · rename_i h; rcases p3 with h' | h'
          · exact absurd h' h
          · exact h'
      rw [decide_eq_true this]; rfl
    | false =>
      refine .inr ⟨rfl, ?_⟩
      rw [e0]
      cases p1 : itemB (rd (gl n 3) i) with
      | false => rfl
      | true =>
        have : ¬ (t ≤ gi (rd (gl n 3) i) 0 ∧ gi (rd (gl n 3) i) 0 ≤ gi n 1) := by
          rintro ⟨h1, h2⟩
          rw [logB, p1, decide_eq_true h2, Bool.true_and, Bool.true_and] at hp
          subst ht
          by_cases h0 : i = 0
          · simp [h0] at hp
          · rw [if_neg h0] at h1
            simp [h1] at hp
        rw [decide_eq_false this]; rfl
  · show impl_NodeOk_l5 (m + 1) servers t _ _ _ (n_impl_Node n) = _
    rw [impl_NodeOk_l5]
    simp only [lt_self, cond_false]
    rfl
theorem lt_not (a b : Int) : decide (a < b) = !decide (b ≤ a) := by by_cases h : a < b <;> simp [h] <;> omega
theorem spec_cell_run {n : V} (hn : W_Node n) {N : Nat} (h8 : (gl n 8).length = N) (h9 : (gl n 9).length = N) (h10 : (gl n 10).length = N) (hlog : (gl n 3).length ≤ 400) : spec_NodeOk_l11 (N + 1) (N : Int) 0 (n_impl_Node n) =
    bif (List.range N).all (fun i => cellB n i && voteB n i) then some (1, false, n_impl_Node n) else some (0, false, n_impl_Node n) := by
  have hl := hn.2.2.2.2.2.2.2.2.1.1
  rw [h8] at hl
  refine all_range (F := fun m i => spec_NodeOk_l11 m (N : Int) i (n_impl_Node n)) (fun m i hi => ?_) (fun m => ?_)
  · have i8 : idxOk (i : Int) (gl n 8).length = true := idxOk_nat (by omega)
    have i9 : idxOk (i : Int) (gl n 9).length = true := idxOk_nat (by omega)
    have i10 : idxOk (i : Int) (gl n 10).length = true := idxOk_nat (by omega)
    show spec_NodeOk_l11 (m + 1) (N : Int) i (n_impl_Node n) = _
    rw [spec_NodeOk_l11]
    simp only [show ∀ j, gl (n_impl_Node n) 3 = gl n 3 from fun _ => rfl, show gl (n_impl_Node n) 8 = gl n 8 from rfl, show gl (n_impl_Node n) 9 = gl n 9 from rfl, show gl (n_impl_Node n) 10 = gl n 10 from rfl, show gi (n_impl_Node n) 5 = gi n 5 from rfl, lt_nat hi, i8, i9, i10, Int.toNat_natCast, cond_true, wr_succ hi hl, show n_impl_Node (n_impl_Node n) = n_impl_Node n from rfl, show gl (n_impl_Node n) 3 = gl n 3 from rfl]
    rw [wr64' (n := ((gl n 3).length : Int) + 1) (by omega) (by omega)]
    simp only [cellB, voteB]
    generalize spec_NodeOk_l11 m _ _ _ = R
    generalize gi (rd (gl n 9) i) 0 = a
    generalize gi (rd (gl n 10) i) 0 = b
    generalize gb (rd (gl n 8) i) 0 = v
    generalize ((gl n 3).length : Int) = L
    by_cases h2 : gi n 5 = 2
    · have h0 : ¬ gi n 5 = 0 := by omega
      simp only [h2, decide_true, cond_true, Bool.not_true, cond_false, show decide ((2 : Int) = 0) = false from rfl, Bool.not_false, Bool.true_or, Bool.and_true]
      simp only [lt_not, Bool.decide_and]
      cases decide (1 ≤ a) <;> cases decide (a ≤ L + 1) <;> cases decide (0 ≤ b) <;> cases decide (b ≤ L) <;> rfl
    · simp only [h2, decide_false, cond_false, Bool.not_false, cond_true]
      by_cases a1 : a = 0 <;> by_cases a2 : b = 0 <;> by_cases a3 : gi n 5 = 0 <;> cases v <;> simp [a1, a2, a3]
  · show spec_NodeOk_l11 (m + 1) _ _ (n_impl_Node n) = _
    rw [spec_NodeOk_l11]
    simp only [lt_self, cond_false]
    rfl
theorem impl_cell_run {n : V} (hn : W_Node n) {N : Nat} (h8 : (gl n 8).length = N) (h9 : (gl n 9).length = N) (h10 : (gl n 10).length = N) (hlog : (gl n 3).length ≤ 400) : impl_NodeOk_l16 (N + 1) (N : Int) 0 (n_impl_Node n) =
    bif (List.range N).all (cellB n) then some (1, false) else some (0, false) := by
  have hl := hn.2.2.2.2.2.2.2.2.1.1
  rw [h8] at hl
  refine all_range (F := fun m i => impl_NodeOk_l16 m (N : Int) i (n_impl_Node n)) (fun m i hi => ?_) (fun m => ?_)
  · have i9 : idxOk (i : Int) (gl n 9).length = true := idxOk_nat (by omega)
    have i10 : idxOk (i : Int) (gl n 10).length = true := idxOk_nat (by omega)
    show impl_NodeOk_l16 (m + 1) (N : Int) i (n_impl_Node n) = _
    rw [impl_NodeOk_l16]
    simp only [show gl (n_impl_Node n) 9 = gl n 9 from rfl, show gl (n_impl_Node n) 10 = gl n 10 from rfl, show gi (n_impl_Node n) 5 = gi n 5 from rfl, lt_nat hi, i9, i10, Int.toNat_natCast, cond_true, wr_succ hi hl, show n_impl_Node (n_impl_Node n) = n_impl_Node n from rfl, show gl (n_impl_Node n) 3 = gl n 3 from rfl]
    rw [wr64' (n := ((gl n 3).length : Int) + 1) (by omega) (by omega)]
    simp only [cellB, within_eq]
    generalize impl_NodeOk_l16 m _ _ _ = R
    generalize gi (rd (gl n 9) i) 0 = a
    generalize gi (rd (gl n 10) i) 0 = b
    generalize ((gl n 3).length : Int) = L
    by_cases h2 : gi n 5 = 2
    · simp only [h2, decide_true, cond_true, Bool.not_true, cond_false]
      by_cases a1 : 1 ≤ a ∧ a ≤ L + 1 <;> by_cases a2 : 0 ≤ b ∧ b ≤ L <;> simp [a1, a2]
    · simp only [h2, decide_false, cond_false, Bool.not_false, cond_true]
      by_cases a1 : a = 0 <;> by_cases a2 : b = 0 <;> simp [a1, a2]
  · show impl_NodeOk_l16 (m + 1) _ _ (n_impl_Node n) = _
    rw [impl_NodeOk_l16]
    simp only [lt_self, cond_false]
theorem bools_W (l : List V) : True := trivial
theorem contains_eq {l : List V} (hl : l.length ≤ 9223372036854775807) : slices_Contains_bool l true = some (!(List.range l.length).all (fun i => !gb (rd l i) 0)) := by
  unfold slices_Contains_bool slices_Index_bool
  rw [fuel_eq]
  have key : (fun o : Option (Nat × Int) => ∃ p, o = some p ∧ ((p.1 = 1 ∧ (List.range l.length).all (fun i => !gb (rd l i) 0) = true) ∨ (p.1 = 0 ∧ 0 ≤ p.2 ∧ (List.range l.length).all (fun i => !gb (rd l i) 0) = false))) (slices_Index_bool_l2 (l.length + 1) l true (l.length : Int) 0) := by
    refine loop_run0 (F := fun m (_ : Unit) i => slices_Index_bool_l2 m l true (l.length : Int) i) (n := l.length) (fun i _ => (List.range i).all (fun i => !gb (rd l i) 0) = true) (fun o : Option (Nat × Int) => ∃ p, o = some p ∧ ((p.1 = 1 ∧ (List.range l.length).all (fun i => !gb (rd l i) 0) = true) ∨ (p.1 = 0 ∧ 0 ≤ p.2 ∧ (List.range l.length).all (fun i => !gb (rd l i) 0) = false))) ?_ ?_ (s := ()) (by simp)
    · intro m i s hi hI
      simp only [slices_Index_bool_l2, lt_nat hi, idxOk_nat hi, Int.toNat_natCast, cond_true, wr_succ hi hl]
      cases hv : gb (rd l i) 0 with
      | true => exact .inr ⟨(0, (i : Int)), rfl, .inr ⟨rfl, by simp, range_all_false (p := fun i => !gb (rd l i) 0) hi (by simp [hv])⟩⟩
      | false => exact .inl ⟨(), rfl, by rw [range_all_succ, hI, hv]; rfl⟩
    · intro m s hI
      exact ⟨(1, 0), by simp only [slices_Index_bool_l2, lt_self, cond_false], .inl ⟨rfl, hI⟩⟩
  obtain ⟨p, e, hp⟩ := key
  rw [e, Option.bind_some]
  rcases hp with ⟨p1, p2⟩ | ⟨p1, p2, p3⟩
  · rw [p1, p2]; rfl
  · rw [p1, p3]
    show some (decide (0 ≤ p.2)) = _
    rw [decide_eq_true p2]; rfl
end Go.Eng.R
open Go Go.Eng
namespace Go.Eng.R
open Classical
theorem range_and (p q : Nat → Bool) (n : Nat) : (List.range n).all (fun i => p i && q i) = ((List.range n).all p && (List.range n).all q) := by
  induction n with
  | zero => rfl
  | succ n ih => rw [range_all_succ, range_all_succ, range_all_succ, ih]; cases (List.range n).all p <;> cases (List.range n).all q <;> cases p n <;> cases q n <;> rfl
theorem servers_eq (k : Int) : spec_l4servers k = decide (1 ≤ k ∧ k ≤ 5) := by
  unfold spec_l4servers; by_cases h : 1 ≤ k <;> simp [h]
theorem term_eq (k : Int) : spec_l3term k = decide (0 ≤ k ∧ k ≤ 100000) := by
  unfold spec_l3term; by_cases h : 0 ≤ k <;> simp [h]
theorem who_eq (n k : Int) : spec_l4who n k = decide (-1 ≤ n ∧ n < k) := by
  unfold spec_l4who; by_cases h : -1 ≤ n <;> simp [h]
theorem not_of {p : Prop} [Decidable p] (h : (!decide p) = true) : ¬ p := by simpa using h
theorem of_not {p : Prop} [Decidable p] (h : (!decide p) = false) : p := by simpa using h
theorem yes_of {p : Prop} [Decidable p] (h : decide p = true) : p := by simpa using h
theorem no_of {p : Prop} [Decidable p] (h : decide p = false) : ¬ p := by simpa using h
theorem spec_NodeOk_eq {n : V} (hn : W_Node n) (k : Int) : spec_NodeOk (n_impl_Node n) k = some (nodeB n k) := by
  unfold spec_NodeOk
  simp only [servers_eq, term_eq, who_eq, fuel_eq, show n_impl_Node (n_impl_Node n) = n_impl_Node n from rfl]
  show (bif _ then _ else _) = _
  refine chk (fun h => nodeB_false fun p => not_of h ⟨p.k1, p.k5⟩) fun h => ?_
  obtain ⟨k1, k5⟩ := of_not h
  refine chk (fun h => nodeB_false fun p => absurd (yes_of h) (Int.not_lt.2 p.id0)) fun h => ?_
  have id0 := no_of h
  refine chk (fun h => nodeB_false fun p => absurd (yes_of h) (Int.not_le.2 p.idk)) fun h => ?_
  have idk := no_of h
  refine chk (fun h => nodeB_false fun p => not_of h ⟨p.term0, p.term1⟩) fun h => ?_
  have term := of_not h
  refine chk (fun h => nodeB_false fun p => not_of h ⟨p.vote0, p.votek⟩) fun h => ?_
  have vote := of_not h
  refine chk (fun h => nodeB_false fun p => absurd (yes_of h) (Int.not_lt.2 p.len)) fun h => ?_
  have len := no_of h
  refine chk (fun h => nodeB_false fun p => absurd (yes_of h) (Int.not_lt.2 p.com0)) fun h => ?_
  have com0 := no_of h
  refine chk (fun h => nodeB_false fun p => absurd (yes_of h) (Int.not_lt.2 p.com1)) fun h => ?_
  have com1 := no_of h
  refine chk (fun h => nodeB_false fun p => absurd (yes_of h) (Int.not_lt.2 p.role0)) fun h => ?_
  have role0 := no_of h
  refine chk (fun h => nodeB_false fun p => absurd (yes_of h) (Int.not_lt.2 p.role2)) fun h => ?_
  have role2 := no_of h
  refine chk (fun h => nodeB_false fun p => not_of h ⟨p.lead0, p.leadk⟩) fun h => ?_
  have lead := of_not h
  refine chk (fun h => nodeB_false fun p => absurd (yes_of h) (Int.not_lt.2 p.wait0)) fun h => ?_
  have wait0 := no_of h
  refine chk (fun h => nodeB_false fun p => absurd (yes_of h) (Int.not_lt.2 p.wait1)) fun h => ?_
  have wait1 := no_of h
  refine chk (fun h => nodeB_false fun p => not_of h p.lvotes) fun h => ?_
  have lvotes := of_not h
  refine chk (fun h => nodeB_false fun p => not_of h p.lnext) fun h => ?_
  have lnext := of_not h
  refine chk (fun h => nodeB_false fun p => not_of h p.lmatch) fun h => ?_
  have lmatch := of_not h
  clear h
  have l8 : ((gl n 8).length : Int) = k := lvotes
  have l9 : ((gl n 9).length : Int) = k := lnext
  have l10 : ((gl n 10).length : Int) = k := lmatch
  have hlen : (gl n 3).length ≤ 400 := by
    have : ¬ (400 : Int) < ((gl n 3).length : Int) := len
    omega
  rw [show gl (n_impl_Node n) 3 = gl n 3 from rfl, spec_log_run hn k]
  cases hit : (List.range (gl n 3).length).all (logB n) with
  | false => exact (congrArg some (nodeB_false fun p => by rw [p.items] at hit; cases hit)).symm
  | true =>
    have hcell := spec_cell_run hn (N := (gl n 8).length) rfl (by omega) (by omega) hlen
    rw [l8] at hcell
    simp only [cond_true, Option.bind_some, show Nat.beq 1 0 = false from rfl, cond_false]
    rw [show (k - 0).toNat + 1 = (gl n 8).length + 1 from by omega, show gi (n_impl_Node n) 5 = gi n 5 from rfl, show gi (n_impl_Node n) 1 = gi n 1 from rfl, show gi (n_impl_Node n) 2 = gi n 2 from rfl, show gi (n_impl_Node n) 0 = gi n 0 from rfl,
      show n_impl_Node (n_impl_Node n) = n_impl_Node n from rfl, hcell, range_and]
    have fin : ∀ (c v : Bool), (List.range (gl n 8).length).all (cellB n) = c → (List.range (gl n 8).length).all (voteB n) = v → (gi n 5 ≠ 0 → 1 ≤ gi n 1 ∧ gi n 2 = gi n 0) →
        (Option.bind (bif (c && v) then some (1, false, n_impl_Node n) else some (0, false, n_impl_Node n)) fun r29 => bif (Nat.beq r29.1 0) then some r29.2.1 else bif (!(decide ((gi r29.2.2 5) = 2))) then some true else some (decide ((gi r29.2.2 6) = (gi r29.2.2 0)))) = some (nodeB n k) := by
      intro c v hc hv hst
      cases c with
      | false => exact (congrArg some (nodeB_false fun p => by have := p.cells; rw [show (gl n 9).length = (gl n 8).length from by omega, hc] at this; cases this)).symm
      | true =>
        cases v with
        | false => exact (congrArg some (nodeB_false fun p => by have := p.votes; rw [hv] at this; cases this)).symm
        | true =>
          show (bif (!(decide (gi n 5 = 2))) then some true else some (decide (gi n 6 = gi n 0))) = _
          have mk : (gi n 5 = 2 → gi n 6 = gi n 0) → nodeB n k = true := fun hl => decide_eq_true
            { k1 := k1, k5 := k5, id0 := Int.not_lt.1 id0, idk := Int.not_le.1 idk, term0 := term.1, term1 := term.2, vote0 := vote.1, votek := vote.2, lead0 := lead.1, leadk := lead.2,
              len := by omega, com0 := Int.not_lt.1 com0, com1 := Int.not_lt.1 com1, role0 := Int.not_lt.1 role0, role2 := Int.not_lt.1 role2, wait0 := Int.not_lt.1 wait0, wait1 := Int.not_lt.1 wait1,
              lvotes := l8, lnext := l9, lmatch := l10, items := hit, cells := by rw [show (gl n 9).length = (gl n 8).length from by omega]; exact hc, votes := hv, stands := hst, leads := hl }
          by_cases h2 : gi n 5 = 2
          · by_cases h6 : gi n 6 = gi n 0
            · rw [mk fun _ => h6]; simp [h2, h6]
            · rw [nodeB_false fun p => h6 (p.leads h2)]; simp [h2, h6]
          · rw [mk fun h => absurd h h2]; simp [h2]
    by_cases h5 : gi n 5 = 0
    · simp only [h5, decide_true, Bool.not_true, cond_false]
      have := fin _ _ rfl rfl (fun h => absurd h5 h)
      exact this
    · simp only [h5, decide_false, Bool.not_false, cond_true]
      refine chk (fun h => nodeB_false fun p => absurd (yes_of h) (Int.not_lt.2 (p.stands h5).1)) fun h => ?_
      have s1 := no_of h
      refine chk (fun h => nodeB_false fun p => not_of h (p.stands h5).2) fun h => ?_
      have s2 := of_not h
      exact fin _ _ rfl rfl (fun _ => ⟨Int.not_lt.1 s1, s2⟩)
theorem server_eq (i k : Int) (hk : I64 k) : impl_isServer i k = (decide (1 ≤ k ∧ k ≤ 5) && decide (0 ≤ i ∧ i < k)) := by
  unfold impl_isServer
  simp only [within_eq]
  by_cases h : 1 ≤ k ∧ k ≤ 5
  · rw [wr64' (by omega) (by omega), decide_eq_true h]
    simp only [cond_true, Bool.true_and]
    congr 1
    apply propext
    omega
  · rw [decide_eq_false h]; rfl
theorem chk2 {c b : Bool} {rest : Option Bool} (h1 : c = true → b = false) (h2 : c = false → rest = some b) : (bif c then some false else rest) = some b := chk h1 h2
theorem wrap_pred (k : Int) (h1 : 1 ≤ k) (h5 : k ≤ 5) : IntKind.i64.wrap (k - 1) = k - 1 := wr64' (by omega) (by omega)
theorem impl_NodeOk_eq {n : V} (hn : W_Node n) (k : Int) (hk : I64 k) : impl_NodeOk (n_impl_Node n) k = some (nodeB n k) := by
  unfold impl_NodeOk
  simp only [server_eq _ k hk, within_eq, fuel_eq, show n_impl_Node (n_impl_Node n) = n_impl_Node n from rfl]
  refine chk (fun h => nodeB_false fun p => ?_) fun h => ?_
  · have a : decide (1 ≤ k ∧ k ≤ 5) = true := decide_eq_true ⟨p.k1, p.k5⟩
    have b : decide (0 ≤ gi (n_impl_Node n) 0 ∧ gi (n_impl_Node n) 0 < k) = true := decide_eq_true ⟨p.id0, p.idk⟩
    rw [a, b] at h; cases h
  simp only [Bool.not_eq_false', Bool.and_eq_true, decide_eq_true_eq] at h
  obtain ⟨⟨k1, k5⟩, id0, idk⟩ := h
  rw [wrap_pred k k1 k5]
  refine chk (fun h => nodeB_false fun p => not_of h ⟨p.term0, p.term1⟩) fun h => ?_
  have term := of_not h
  refine chk (fun h => nodeB_false fun p => not_of h ⟨p.vote0, by have := p.votek; show gi n 2 ≤ k - 1; omega⟩) fun h => ?_
  have vote := of_not h
  refine chk (fun h => nodeB_false fun p => not_of h ⟨p.lead0, by have := p.leadk; show gi n 6 ≤ k - 1; omega⟩) fun h => ?_
  have lead := of_not h
  refine chk (fun h => nodeB_false fun p => absurd (yes_of h) (Int.not_lt.2 p.len)) fun h => ?_
  have len := no_of h
  clear h
  have hlen : (gl n 3).length ≤ 400 := by
    have : ¬ (400 : Int) < ((gl n 3).length : Int) := len
    omega
  have vote : -1 ≤ gi n 2 ∧ gi n 2 ≤ k - 1 := vote
  have lead : -1 ≤ gi n 6 ∧ gi n 6 ≤ k - 1 := lead
  rw [show gl (n_impl_Node n) 3 = gl n 3 from rfl, impl_log_run hn k]
  cases hit : (List.range (gl n 3).length).all (logB n) with
  | false => exact (congrArg some (nodeB_false fun p => by rw [p.items] at hit; cases hit)).symm
  | true =>
    simp only [cond_true, Option.bind_some, show Nat.beq 1 0 = false from rfl, cond_false]
    rw [show gl (n_impl_Node n) 3 = gl n 3 from rfl, show gl (n_impl_Node n) 8 = gl n 8 from rfl, show gl (n_impl_Node n) 9 = gl n 9 from rfl, show gl (n_impl_Node n) 10 = gl n 10 from rfl, show gi (n_impl_Node n) 4 = gi n 4 from rfl, show gi (n_impl_Node n) 5 = gi n 5 from rfl, show gi (n_impl_Node n) 7 = gi n 7 from rfl,
      show gi (n_impl_Node n) 1 = gi n 1 from rfl, show gi (n_impl_Node n) 2 = gi n 2 from rfl, show gi (n_impl_Node n) 0 = gi n 0 from rfl, show gi (n_impl_Node n) 6 = gi n 6 from rfl, show n_impl_Node (n_impl_Node n) = n_impl_Node n from rfl]
    refine chk (fun h => nodeB_false fun p => not_of h ⟨p.com0, p.com1⟩) fun h => ?_
    have com := of_not h
    refine chk (fun h => nodeB_false fun p => not_of h ⟨p.role0, p.role2⟩) fun h => ?_
    have role := of_not h
    refine chk (fun h => nodeB_false fun p => not_of h ⟨p.wait0, p.wait1⟩) fun h => ?_
    have wait := of_not h
    refine chk (fun h => nodeB_false fun p => not_of h p.lvotes) fun h => ?_
    have l8 := of_not h
    refine chk (fun h => nodeB_false fun p => not_of h p.lnext) fun h => ?_
    have l9 := of_not h
    refine chk (fun h => nodeB_false fun p => not_of h p.lmatch) fun h => ?_
    have l10 := of_not h
    clear h
    have hcell := impl_cell_run hn (N := (gl n 8).length) rfl (by omega) (by omega) hlen
    rw [l8] at hcell
    rw [show (k - 0).toNat + 1 = (gl n 8).length + 1 from by omega, hcell, contains_eq hn.2.2.2.2.2.2.2.2.1.1]
    have fin : (gi n 5 = 0 → (List.range (gl n 8).length).all (fun i => !gb (rd (gl n 8) i) 0) = true) → (gi n 5 ≠ 0 → 1 ≤ gi n 1 ∧ gi n 2 = gi n 0) → (gi n 5 = 2 → gi n 6 = gi n 0) →
        (Option.bind (bif (List.range (gl n 8).length).all (cellB n) then some (1, false) else some (0, false)) fun r51 : Nat × Bool => bif (Nat.beq r51.1 0) then some r51.2 else some true) = some (nodeB n k) := by
      intro hv hst hld
      cases hc : (List.range (gl n 8).length).all (cellB n) with
      | false => exact (congrArg some (nodeB_false fun p => by have := p.cells; rw [show (gl n 9).length = (gl n 8).length from by omega, hc] at this; cases this)).symm
      | true =>
        have hcells : (List.range (gl n 9).length).all (cellB n) = true := by rw [show (gl n 9).length = (gl n 8).length from by omega]; exact hc
        have hvotes : (List.range (gl n 8).length).all (voteB n) = true := by
          by_cases h5 : gi n 5 = 0
          · rw [← hv h5]; congr 1; funext i; simp [voteB, h5]
          · rw [List.all_eq_true]; intro i _; simp [voteB, h5]
        refine (congrArg some (decide_eq_true ?_)).symm
        exact { k1 := k1, k5 := k5, id0 := id0, idk := idk, term0 := term.1, term1 := term.2, vote0 := vote.1, votek := (by omega), lead0 := lead.1, leadk := (by omega),
                    len := (by omega), com0 := com.1, com1 := com.2, role0 := role.1, role2 := role.2, wait0 := wait.1, wait1 := wait.2,
                    lvotes := l8, lnext := l9, lmatch := l10, items := hit, cells := hcells, votes := hvotes, stands := hst, leads := hld }
    by_cases h5 : gi n 5 = 0
    · simp only [h5, decide_true, Bool.not_true, cond_false, cond_true, Option.bind_some]
      refine chk (fun h => nodeB_false fun p => ?_) fun h => ?_
      · have := p.votes
        have e : (List.range (gl n 8).length).all (voteB n) = (List.range (gl n 8).length).all (fun i => !gb (rd (gl n 8) i) 0) := by congr 1; funext i; simp [voteB, h5]
        rw [e] at this; rw [this] at h; cases h
      · simp only [show decide ((0 : Int) = 2) = false from rfl, cond_false]
        exact fin (fun _ => by simpa using h) (fun h => absurd h5 h) (fun h => by omega)
    · simp only [h5, decide_false, Bool.not_false, cond_true, cond_false]
      refine chk (fun h => nodeB_false fun p => absurd (yes_of h) (Int.not_lt.2 (p.stands h5).1)) fun h => ?_
      have s1 := no_of h
      refine chk (fun h => nodeB_false fun p => not_of h (p.stands h5).2) fun h => ?_
      have s2 := of_not h
      by_cases h2 : gi n 5 = 2
      · simp only [h2, decide_true, cond_true]
        refine chk (fun h => nodeB_false fun p => not_of h (p.leads h2)) fun h => ?_
        exact fin (fun h => absurd h h5) (fun _ => ⟨Int.not_lt.1 s1, s2⟩) (fun _ => of_not h)
      · simp only [h2, decide_false, cond_false]
        exact fin (fun h => absurd h h5) (fun _ => ⟨Int.not_lt.1 s1, s2⟩) (fun h => absurd h h2)
end Go.Eng.R
open Go Go.Eng
namespace Go.Eng.R
open Classical
theorem drawNodeOk_O {code : List V} (h : LW W_byte code) : Ok2 (fun n s => B_Node 10 n ∧ I64 s) (spec_DrawNodeOk code) := by
  unfold spec_DrawNodeOk
  refine .of ?_
  obtain ⟨c, e, h1⟩ := new_ok h
  rw [e]
  simp only [Option.bind_some]
  obtain ⟨x, c1, e1, h2, x1, x5⟩ := count_O h1
  rw [e1]
  simp only [Option.bind_some]
  obtain ⟨n, c2, e2, h3, hn⟩ := nbent_O h2 x1 x5
  rw [e2]
  simp only [Option.bind_some]
  obtain ⟨⟨b, c3⟩, e3, h4⟩ := once_O h3 12
  rw [e3]
  simp only [Option.bind_some]
  cases b with
  | false => exact ⟨_, rfl, hn, by unfold I64; omega⟩
  | true =>
    obtain ⟨⟨y, c4⟩, e4, h5, hy⟩ := pick_O h4 (l := [(V.int .i64 0), (V.int .i64 6), (V.int .i64 2)]) (by decide) ⟨⟨by decide, by decide⟩, ⟨by decide, by decide⟩, ⟨by decide, by decide⟩, trivial⟩
    simp only [cond_true]
    rw [e4]
    exact ⟨_, rfl, hn, hy⟩
theorem B_Item.W {x : V} (h : B_Item x) : W_Item x := ⟨h.1, h.2.1, h.2.2.1, h.2.2.2.1, h.2.2.2.2.1.1, h.2.2.2.2.2.1.1, h.2.2.2.2.2.2⟩
theorem B_Node.W {m : Nat} {n : V} (hm : m ≤ 1000) (h : B_Node m n) : W_Node n := by
  obtain ⟨h0, h1, h2, h3, _, h4, h5, h6, h7, h8, h9, _, h10, _⟩ := h
  exact ⟨h0, h1, h2, ⟨h3.1, fun y hy => (h3.2 y hy).W⟩, h4, h5, h6, h7, ⟨by omega, fun _ _ => trivial⟩, h9, h10⟩
theorem drawNewer_O {code : List V} (h : LW W_byte code) : ∃ n k p t, spec_DrawNewer code = some (n, k, p, t) ∧ W_Node n ∧ I64 k := by
  unfold spec_DrawNewer
  obtain ⟨c, e, h1⟩ := new_ok h
  rw [e]
  simp only [Option.bind_some]
  obtain ⟨n, k, e1, hn, hk⟩ := drawNodeOk_O h
  rw [e1]
  simp only [Option.bind_some]
  obtain ⟨⟨x, c1⟩, e2, h2, _⟩ := below_O h1 3
  rw [e2]
  simp only [Option.bind_some]
  obtain ⟨⟨y, c2⟩, e3, h3, _⟩ := below_O h2 3
  rw [e3]
  exact ⟨_, _, _, _, rfl, hn.W (by decide), hk⟩
theorem newer_no {n : V} (hw : W_Node n) {k : Int} (hk : I64 k) (h : nodeB n k = false) (p t : Int) : impl_Newer (n_impl_Node n) k p t = some false := by
  unfold impl_Newer
  rw [show n_impl_Node (n_impl_Node n) = n_impl_Node n from rfl, impl_NodeOk_eq hw k hk, h]
  rfl
def lastT (n : V) : Int := if (gl n 3).length = 0 then 0 else gi (rd (gl n 3) ((gl n 3).length - 1)) 0
theorem termAt_last {n : V} (hl : (gl n 3).length ≤ 400) : impl_Node_termAt (n_impl_Node n) (((gl n 3).length : Nat) : Int) = some (lastT n) := by
  unfold impl_Node_termAt lastT
  rw [show gl (n_impl_Node n) 3 = gl n 3 from rfl, within_eq]
  by_cases h0 : (gl n 3).length = 0
  · rw [decide_eq_false (by omega), if_pos h0]; rfl
  · rw [decide_eq_true ⟨by omega, Int.le_refl _⟩, if_neg h0, wr64' (n := (((gl n 3).length : Nat) : Int) - 1) (by omega) (by omega), idx_of (by omega) (by omega), show ((((gl n 3).length : Nat) : Int) - 1).toNat = (gl n 3).length - 1 by omega]
    rfl
theorem lastT_hi {n : V} {k : Int} (h : NodeP n k) : lastT n ≤ 100000 := by
  unfold lastT
  by_cases h0 : (gl n 3).length = 0
  · rw [if_pos h0]; decide
  · rw [if_neg h0]
    have h1 := List.all_eq_true.1 h.items ((gl n 3).length - 1) (List.mem_range.2 (by omega))
    simp only [logB, Bool.and_eq_true, decide_eq_true_eq] at h1
    have := h.term1
    omega
theorem lastT_I {n : V} (hw : W_Node n) : I64 (lastT n) := by
  unfold lastT
  by_cases h0 : (gl n 3).length = 0
  · rw [if_pos h0]; exact ⟨by decide, by decide⟩
  · rw [if_neg h0]; exact (hw.2.2.2.1.rd (i := (gl n 3).length - 1) (by omega)).1
theorem newer_yes {n : V} (hw : W_Node n) {k : Int} (hk : I64 k) (h : NodeP n k) (p t : Int) :
    impl_Newer (n_impl_Node n) k p t = some (if lastT n < t then true else if t = lastT n then decide ((((gl n 3).length : Nat) : Int) ≤ p) else false) := by
  have hl : (gl n 3).length ≤ 400 := by have := h.len; omega
  have hb : nodeB n k = true := by unfold nodeB; exact decide_eq_true h
  have hlt : impl_Node_lastTerm (n_impl_Node (n_impl_Node n)) = some (lastT n) := by
    unfold impl_Node_lastTerm
    show Option.bind (impl_Node_termAt (n_impl_Node n) (((gl n 3).length : Nat) : Int)) _ = _
    rw [termAt_last hl]
    rfl
  unfold impl_Newer impl_Node_newer
  rw [show n_impl_Node (n_impl_Node (n_impl_Node n)) = n_impl_Node (n_impl_Node n) from rfl, show impl_NodeOk (n_impl_Node (n_impl_Node n)) k = some true from by rw [show n_impl_Node (n_impl_Node n) = n_impl_Node n from rfl, impl_NodeOk_eq hw k hk, hb], hlt]
  simp only [Option.bind_some, cond_true]
  by_cases h1 : lastT n < t
  · rw [decide_eq_true h1, if_pos h1]; rfl
  · rw [decide_eq_false h1, if_neg h1]
    by_cases h2 : t = lastT n
    · rw [decide_eq_true h2, if_pos h2]; rfl
    · rw [decide_eq_false h2, if_neg h2]; rfl
theorem law_Newer {code : List V} (h : LW W_byte code) : laws_FnNewer code = some true := by
  unfold laws_FnNewer
  obtain ⟨n, k, p, t, e, hw, hk⟩ := drawNewer_O h
  rw [e]
  simp only [Option.bind_some, spec_NodeOk_eq hw]
  cases hb : nodeB n k with
  | false =>
    simp only [Bool.not_false, cond_true, newer_no hw hk hb, Option.bind_some]
  | true =>
    have hp : NodeP n k := by unfold nodeB at hb; exact of_decide_eq_true hb
    have hl : (gl n 3).length ≤ 400 := by have := hp.len; omega
    have hT : impl_TermAt (n_impl_Node n) k (((gl n 3).length : Nat) : Int) = some (lastT n) := by
      unfold impl_TermAt
      rw [show n_impl_Node (n_impl_Node n) = n_impl_Node n from rfl, impl_NodeOk_eq hw k hk, hb, termAt_last hl]
      rfl
    have hi := lastT_hi hp
    have hI := lastT_I hw
    have hwr : IntKind.i64.wrap (lastT n + 1) = lastT n + 1 := wr64' (by have := hI.1; omega) (by omega)
    simp only [Bool.not_true, cond_false, hT, Option.bind_some, newer_yes hw hk hp, hwr]
    rw [if_neg (Int.lt_irrefl _), if_pos trivial, if_pos (by omega : lastT n < lastT n + 1), decide_eq_true (Int.le_refl _)]
    simp only [Bool.not_true, cond_false]
    by_cases h1 : t < lastT n
    · rw [decide_eq_true h1]; rfl
    rw [decide_eq_false h1]
    by_cases h2 : lastT n = t
    · rw [decide_eq_true h2]
      by_cases h3 : p ≤ (((gl n 3).length : Nat) : Int)
      · rw [decide_eq_true h3]; rfl
      · rw [decide_eq_false h3, if_neg (by omega), if_pos h2.symm, decide_eq_true (by omega)]; rfl
    · rw [decide_eq_false h2, if_pos (by omega)]; rfl
end Go.Eng.R
open Go Go.Eng
namespace Go.Eng.R
theorem wt_byte {x : V} (h : WtT tab t_byte x) : W_byte x := wt_u8 (h.cell 0 rfl)
theorem wt_sl_byte {x : V} (h : WtT tab t_sl_byte x) : LW W_byte (gl x 0) := wt_sl (h.cell 0 rfl) fun _ => wt_byte
def readable : List TypeId := [5, 22]
end Go.Eng.R
