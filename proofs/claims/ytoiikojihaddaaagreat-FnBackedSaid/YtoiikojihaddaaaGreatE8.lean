/- An own evaluator of the program's form, proved sound, and what it says of this law's functions: part 8. -/
import Derived.Test.YtoiikojihaddaaaGreatE7
set_option linter.unusedVariables false

open Go Go.Eng Go.Proofs
namespace Go.Eng.R
noncomputable def c41 : Cfg := ZaA (P := Tryz.prog) (tab := tab) [] false []
def a41_0 (r_ : List V × Int) : List (Ex × St) := [((Ex.exit 0), (⟨[(0, (V.inl Zf r_.1)), (3, (vi r_.2))], [], 0, []⟩ : St))]
def s41_0 : SS := ⟨[(0, (.one (.inl Zf))), (3, (.one (.int .i64))), (4, (.one (.int .i64)))], [], 0, []⟩
noncomputable def l41_0 : LE := le0 3 s41_0 (fun st => ZbY ((((((sv st 0).L).length : Nat) : Int) - ((sv st 2).I)).toNat + 1) ((sv st 0).L) ((sv st 1).I) ((sv st 2).I)) a41_0
noncomputable def L41 : Loops := ⟨fun k => (Zr [(3, [0, 3, 4])] k).getD [], fun _ => [], fun k => (Zr [(3, [0, 3])] k).getD [], runL [l41_0], [], fun _ => []⟩
theorem t41_0 (k_ : Nat) : ∀ (code0 : List V) (h3 : Int) (i4 : Int), Agr id (pk0 a41_0) (ZbY k_ code0 h3 i4) (Zac c41 L41 (lpB Tryz.f41 0) k_ (s41_0.mk' (stv [V.inl 0 code0, vi h3, vi i4] []))) := by
  induction k_ with
  | zero => exact fun _ _ _ => g0
  | succ k_ ih => exact fun _ _ _ => gA (g1 (g1 (g1 (ih _ _ _) g0) g4) g4) (by kernel_rfl)
theorem o41 : ZT c41 L41 (Z7 Tryz.f41) := GoodAll.ok (l := [l41_0]) (.cons 0 (by kernel_rfl) (gd0 (fun st => (((((sv st 0).L).length : Nat) : Int) - ((sv st 2).I)).toNat + 1) (fun st => t41_0 _ _ _ _) fun st => by kernel_rfl) (.nil)) rfl
noncomputable def e41 : En Tryz.prog tab := enP base [] false [] Tryz.func41 (L := L41) o41 [(.one (.inl Zf))] (fun a => ZdV ((rd a 0).L)) (fun r_ : V => ((V.nb Zu (l0 r_)), [])) [[(.inl Zf)]] [] [some Zf] false (by kernel_rfl) fun _ => gA (g2 fun _ => g4) (by kernel_rfl)
noncomputable def e104 : En Tryz.prog tab := enP base [] false [] Tryz.func104 Zan [(.rf Zu [(.inl Zf), (.int .i64), (.int .i64)])] (fun a => Zb7 ((rd a 0).unbox)) (fun r_ : Int × V => ((vi r_.1), [(V.rf Zu (l0 r_.2))])) [] [[(.inl Zf)]] [none] false (by kernel_rfl) fun _ => gA (g1 (g1 g4 g0) g4) (by kernel_rfl)
set_option maxRecDepth 100000 in
noncomputable def e55 : En Tryz.prog tab := enP base [e104] false [] Tryz.func55 Zan [(.rf Zu [(.inl Zf), (.int .i64), (.int .i64)]), (.one (.int .i64))] (fun a => Zh ((rd a 0).unbox) ((rd a 1).I)) (fun r_ : Int × V => ((vi r_.1), [(V.rf Zu (l0 r_.2))])) [] [[(.inl Zf)]] [none, none] false (by kernel_rfl) fun _ => gA (g1 g4 (g1 (g2 fun _ => g1 g4 g0) (g2 fun _ => g2 fun _ => g2 fun _ => g2 fun _ => g1 g4 g0))) (by kernel_rfl)
noncomputable def e92 : En Tryz.prog tab := enP base [e55] false [] Tryz.func92 Zan [(.rf Zu [(.inl Zf), (.int .i64), (.int .i64)]), (.one (.inl Ze))] (fun a => Z4 ((rd a 0).unbox) ((rd a 1).L)) (fun r_ : Int × V => ((vi r_.1), [(V.rf Zu (l0 r_.2))])) [] [[(.inl Zf)]] [none, some Ze] false (by kernel_rfl) fun _ => gA (g2 fun _ => g1 g4 g0) (by kernel_rfl)
noncomputable def e70 : En Tryz.prog tab := enP base [e92] false [] Tryz.func70 Zan [(.rf Zu [(.inl Zf), (.int .i64), (.int .i64)])] (fun a => ZdW ((rd a 0).unbox)) (fun r_ : Int × V => ((vi r_.1), [(V.rf Zu (l0 r_.2))])) [] [[(.inl Zf)]] [none] false (by kernel_rfl) fun _ => gA (g2 fun _ => g4) (by kernel_rfl)
noncomputable def e155 : En Tryz.prog tab := enP base [] false [] Tryz.func155 Zan [(.one (.int .i64)), (.one (.int .i64))] (fun a => spec_l4new ((rd a 0).I) ((rd a 1).I)) (fun r_ : V => ((h1 r_), [])) [q2] [] [none, none] false (by kernel_rfl) fun _ => gA (g1 (g1 (g1 g4 g0) g0) g0) (by kernel_rfl)
noncomputable def e186 : En Tryz.prog tab := enP base [e55] false [] Tryz.func186 Zan [(.rf Zu [(.inl Zf), (.int .i64), (.int .i64)])] (fun a => Zcd ((rd a 0).unbox)) (fun r_ : List V × V => ((V.inl Zf r_.1), [(V.rf Zu (l0 r_.2))])) [[(.inl Zf)]] [[(.inl Zf)]] [none] false (by kernel_rfl) fun _ => gA (g2 fun _ => g1 g4 g0) (by kernel_rfl)
noncomputable def e187 : En Tryz.prog tab := enP base [e55] false [] Tryz.func187 Zan [(.rf Zu [(.inl Zf), (.int .i64), (.int .i64)])] (fun a => ZbF ((rd a 0).unbox)) (fun r_ : List V × V => ((V.inl Zf r_.1), [(V.rf Zu (l0 r_.2))])) [[(.inl Zf)]] [[(.inl Zf)]] [none] false (by kernel_rfl) fun _ => gA (g2 fun _ => g1 g4 g0) (by kernel_rfl)
set_option maxRecDepth 100000 in
noncomputable def e157 : En Tryz.prog tab := enP base [e92, e186, e187, e55] false [] Tryz.func157 Zan [(.rf Zu [(.inl Zf), (.int .i64), (.int .i64)]), (.one (.int .i64))] (fun a => spec_l2op ((rd a 0).unbox) ((rd a 1).I)) (fun r_ : V × V => ((n_impl_Op r_.1), [(V.rf Zu (l0 r_.2))])) [[.dead, (.inl Zf), (.inl Zf)]] [[(.inl Zf)]] [none, none] false (by kernel_rfl) fun _ => gA (g2 fun _ => g1 (g2 fun _ => g1 (g1 (g1 (g2 fun _ => g1 (g2 fun _ => g4) (g1 (g2 fun _ => g2 fun _ => g4) (g1 (g2 fun _ => g1 (g2 fun _ => g4) g4) (g1 (g2 fun _ => g1 (g2 fun _ => g4) g4) (g1 (g2 fun _ => g1 (g2 fun _ => g4) g4) g4))))) (g1 (g2 fun _ => g4) (g1 (g2 fun _ => g2 fun _ => g4) (g1 (g2 fun _ => g1 (g2 fun _ => g4) g4) (g1 (g2 fun _ => g1 (g2 fun _ => g4) g4) (g1 (g2 fun _ => g1 (g2 fun _ => g4) g4) g4)))))) (g1 (g2 fun _ => g4) (g1 (g2 fun _ => g2 fun _ => g4) (g1 (g2 fun _ => g1 (g2 fun _ => g4) g4) (g1 (g2 fun _ => g1 (g2 fun _ => g4) g4) (g1 (g2 fun _ => g1 (g2 fun _ => g4) g4) g4)))))) (g1 (g2 fun _ => g4) (g1 (g2 fun _ => g2 fun _ => g4) (g1 (g2 fun _ => g1 (g2 fun _ => g4) g4) (g1 (g2 fun _ => g1 (g2 fun _ => g4) g4) (g1 (g2 fun _ => g1 (g2 fun _ => g4) g4) g4)))))) (g1 (g2 fun _ => g1 (g1 (g1 (g2 fun _ => g1 (g2 fun _ => g4) (g1 (g2 fun _ => g2 fun _ => g4) (g1 (g2 fun _ => g1 (g2 fun _ => g4) g4) (g1 (g2 fun _ => g1 (g2 fun _ => g4) g4) (g1 (g2 fun _ => g1 (g2 fun _ => g4) g4) g4))))) (g1 (g2 fun _ => g4) (g1 (g2 fun _ => g2 fun _ => g4) (g1 (g2 fun _ => g1 (g2 fun _ => g4) g4) (g1 (g2 fun _ => g1 (g2 fun _ => g4) g4) (g1 (g2 fun _ => g1 (g2 fun _ => g4) g4) g4)))))) (g1 (g2 fun _ => g4) (g1 (g2 fun _ => g2 fun _ => g4) (g1 (g2 fun _ => g1 (g2 fun _ => g4) g4) (g1 (g2 fun _ => g1 (g2 fun _ => g4) g4) (g1 (g2 fun _ => g1 (g2 fun _ => g4) g4) g4)))))) (g1 (g2 fun _ => g4) (g1 (g2 fun _ => g2 fun _ => g4) (g1 (g2 fun _ => g1 (g2 fun _ => g4) g4) (g1 (g2 fun _ => g1 (g2 fun _ => g4) g4) (g1 (g2 fun _ => g1 (g2 fun _ => g4) g4) g4)))))) (g1 (g2 fun _ => g1 (g1 (g1 (g2 fun _ => g1 (g2 fun _ => g4) (g1 (g2 fun _ => g2 fun _ => g4) (g1 (g2 fun _ => g1 (g2 fun _ => g4) g4) (g1 (g2 fun _ => g1 (g2 fun _ => g4) g4) (g1 (g2 fun _ => g1 (g2 fun _ => g4) g4) g4))))) (g1 (g2 fun _ => g4) (g1 (g2 fun _ => g2 fun _ => g4) (g1 (g2 fun _ => g1 (g2 fun _ => g4) g4) (g1 (g2 fun _ => g1 (g2 fun _ => g4) g4) (g1 (g2 fun _ => g1 (g2 fun _ => g4) g4) g4)))))) (g1 (g2 fun _ => g4) (g1 (g2 fun _ => g2 fun _ => g4) (g1 (g2 fun _ => g1 (g2 fun _ => g4) g4) (g1 (g2 fun _ => g1 (g2 fun _ => g4) g4) (g1 (g2 fun _ => g1 (g2 fun _ => g4) g4) g4)))))) (g1 (g2 fun _ => g4) (g1 (g2 fun _ => g2 fun _ => g4) (g1 (g2 fun _ => g1 (g2 fun _ => g4) g4) (g1 (g2 fun _ => g1 (g2 fun _ => g4) g4) (g1 (g2 fun _ => g1 (g2 fun _ => g4) g4) g4)))))) (g1 (g1 (g1 (g2 fun _ => g1 (g2 fun _ => g4) (g1 (g2 fun _ => g2 fun _ => g4) (g1 (g2 fun _ => g1 (g2 fun _ => g4) g4) (g1 (g2 fun _ => g1 (g2 fun _ => g4) g4) (g1 (g2 fun _ => g1 (g2 fun _ => g4) g4) g4))))) (g1 (g2 fun _ => g4) (g1 (g2 fun _ => g2 fun _ => g4) (g1 (g2 fun _ => g1 (g2 fun _ => g4) g4) (g1 (g2 fun _ => g1 (g2 fun _ => g4) g4) (g1 (g2 fun _ => g1 (g2 fun _ => g4) g4) g4)))))) (g1 (g2 fun _ => g4) (g1 (g2 fun _ => g2 fun _ => g4) (g1 (g2 fun _ => g1 (g2 fun _ => g4) g4) (g1 (g2 fun _ => g1 (g2 fun _ => g4) g4) (g1 (g2 fun _ => g1 (g2 fun _ => g4) g4) g4)))))) (g1 (g2 fun _ => g4) (g1 (g2 fun _ => g2 fun _ => g4) (g1 (g2 fun _ => g1 (g2 fun _ => g4) g4) (g1 (g2 fun _ => g1 (g2 fun _ => g4) g4) (g1 (g2 fun _ => g1 (g2 fun _ => g4) g4) g4))))))))) (by kernel_rfl)
noncomputable def e64 : En Tryz.prog tab := enP base [e55] false [] Tryz.func64 Zan [(.rf Zu [(.inl Zf), (.int .i64), (.int .i64)]), (.one (.int .i64))] (fun a => ZaI ((rd a 0).unbox) ((rd a 1).I)) (fun r_ : Bool × V => ((V.bool r_.1), [(V.rf Zu (l0 r_.2))])) [] [[(.inl Zf)]] [none, none] false (by kernel_rfl) fun _ => gA (g2 fun _ => g4) (by kernel_rfl)
noncomputable def e111 : En Tryz.prog tab := enP base [e55, e157, e64] false [] Tryz.func111 Zan [(.rf Zu [(.inl Zf), (.int .i64), (.int .i64)]), (.one (.int .i64))] (fun a => Za0 ((rd a 0).unbox) ((rd a 1).I)) (fun r_ : V × V => ((Zp r_.1), [(V.rf Zu (l0 r_.2))])) [q3] [[(.inl Zf)]] [none, none] false (by kernel_rfl) fun _ => gA (g2 fun _ => g2 fun _ => g2 fun _ => g2 fun _ => g1 g4 g4) (by kernel_rfl)
noncomputable def c156 : Cfg := ZaA (P := Tryz.prog) (tab := tab) [e55, e111] false []
def a156_0 (r_ : V × List V) : List (Ex × St) := [((Ex.exit 0), (⟨[(5, (vs 1 Zb))], [(0, some (Blk.box Zu (l0 r_.1))), (1, some (Blk.row Zb false r_.2))], 2, [0]⟩ : St))]
def s156_0 : SS := ⟨[(0, (.one (.bp 0 0))), (1, (.one (.int .i64))), (5, (.one (.sl 1 Zb))), (6, (.one (.int .i64))), (7, (.one (.int .i64)))], [(.box Zu [(.inl Zf), (.int .i64), (.int .i64)]), (.row Zb false)], 2, [0]⟩
noncomputable def l156_0 : LE := le0 4 s156_0 (fun st => Zbx ((((sv st 1).I) - ((sv st 4).I)).toNat + 1) ((sv st 1).I) ((sv st 3).I) ((sv st 4).I) (bc st 0) (br st 1)) a156_0
noncomputable def L156 : Loops := ⟨fun k => (Zr [(4, [0, 1, 5, 6, 7])] k).getD [], fun k => (Zr [(4, [⟨5, none, false⟩])] k).getD [], fun k => (Zr [(4, [5])] k).getD [], runL [l156_0], [], fun _ => []⟩
theorem t156_0 (k_ : Nat) : ∀ (n1 : Int) (t6 : Int) (i7 : Int) (b0 : V) (r1 : List V), Agr id (pk0 a156_0) (Zbx k_ n1 t6 i7 b0 r1) (Zac c156 L156 (lpB Tryz.f156 0) k_ (s156_0.mk' (stv [.dead, vi n1, .dead, vi t6, vi i7] [bx b0, rb r1]))) := by
  induction k_ with
  | zero => exact fun _ _ _ _ _ => g0
  | succ k_ ih => exact fun _ _ _ _ _ => gA (g1 (g2 fun _ => g2 fun _ => g1 (ih _ _ _ _ _) g0) g4) (by kernel_rfl)
theorem o156 : ZT c156 L156 (Z7 Tryz.f156) := GoodAll.ok (l := [l156_0]) (.cons 0 (by kernel_rfl) (gd0 (fun st => (((sv st 1).I) - ((sv st 4).I)).toNat + 1) (fun st => t156_0 _ _ _ _ _ _) fun st => by kernel_rfl) (.nil)) rfl
noncomputable def e156 : En Tryz.prog tab := enP base [e55, e111] false [] Tryz.func156 (L := L156) o156 [(.rf Zu [(.inl Zf), (.int .i64), (.int .i64)]), (.one (.int .i64))] (fun a => Zdk ((rd a 0).unbox) ((rd a 1).I)) (fun r_ : List V × V => ((V.rr Zb false r_.1), [(V.rf Zu (l0 r_.2))])) [[(.rr Zb false)]] [[(.inl Zf)]] [none, none] false (by kernel_rfl) fun _ => gA (g2 fun _ => g4) (by kernel_rfl)
noncomputable def e73 : En Tryz.prog tab := enP base [] false [] Tryz.func73 Zan [(.ep q4 0), (.one (.int .i64))] (fun a => Zc1 ((rd a 0).unbox) ((rd a 1).I)) (fun r_ : Int => ((vi r_), [])) [] [] [none, none] false (by kernel_rfl) fun _ => gA (g1 g4 (g1 g4 (g1 g4 g0))) (by kernel_rfl)
noncomputable def c110 : Cfg := ZaA (P := Tryz.prog) (tab := tab) [e55, e155, e156, e73, e64] false [73]
def a110_0 (r_ : V × V × V × List V × List V × List V × List V × List V × List V × List V × List V) : List (Ex × St) := [((Ex.exit 1), (⟨[(4, (V.bp 1 0)), (5, (V.bp 2 0))], [(0, some (Blk.box Zu (l0 r_.1))), (1, some (Blk.box ZF (l5 r_.2.1))), (2, some (Blk.box ZF (l6 r_.2.2.1))), (3, some (Blk.row Zb true r_.2.2.2.1)), (4, some (Blk.row Zi true r_.2.2.2.2.1)), (5, some (Blk.row Ze true r_.2.2.2.2.2.1)), (6, some (Blk.row Ze true r_.2.2.2.2.2.2.1)), (7, some (Blk.row Zb false r_.2.2.2.2.2.2.2.1)), (8, some (Blk.row Zi true r_.2.2.2.2.2.2.2.2.1)), (9, some (Blk.row Ze true r_.2.2.2.2.2.2.2.2.2.1)), (10, some (Blk.row Ze true r_.2.2.2.2.2.2.2.2.2.2))], 11, [0]⟩ : St))]
def s110_0 : SS := ⟨[(0, (.one (.bp 0 0))), (1, (.one (.int .i64))), (4, (.one (.bp 1 0))), (5, (.one (.bp 2 0))), (6, (.one (.int .i64))), (7, (.one (.int .i64)))], [(.box Zu [(.inl Zf), (.int .i64), (.int .i64)]), (.box ZF q7), (.box ZF q8), (.row Zb true), (.row Zi true), (.row Ze true), (.row Ze true), (.row Zb false), (.row Zi true), (.row Ze true), (.row Ze true)], 11, [0]⟩
noncomputable def l110_0 : LE := le0 26 s110_0 (fun st => Zbd ((((sv st 1).I) - ((sv st 5).I)).toNat + 1) ((sv st 1).I) ((sv st 4).I) ((sv st 5).I) (bc st 0) (bc st 1) (bc st 2) (br st 3) (br st 4) (br st 5) (br st 6) (br st 7) (br st 8) (br st 9) (br st 10)) a110_0
noncomputable def L110 : Loops := ⟨fun k => (Zr [(26, [0, 1, 4, 5, 6, 7])] k).getD [], fun k => (Zr [(26, [⟨4, some 3, true⟩, ⟨4, some 8, true⟩, ⟨4, some 9, true⟩, ⟨4, some 10, true⟩])] k).getD [], fun k => (Zr [(26, [4, 5])] k).getD [], runL [l110_0], [], fun _ => []⟩
set_option maxRecDepth 100000 in
theorem t110_0 (k_ : Nat) : ∀ (servers1 : Int) (k6 : Int) (i7 : Int) (b0 : V) (b1 : V) (b2 : V) (r3 : List V) (r4 : List V) (r5 : List V) (r6 : List V) (r7 : List V) (r8 : List V) (r9 : List V) (r10 : List V), Agr id (pk0 a110_0) (Zbd k_ servers1 k6 i7 b0 b1 b2 r3 r4 r5 r6 r7 r8 r9 r10) (Zac c110 L110 (lpB Tryz.f110 0) k_ (s110_0.mk' (stv [.dead, vi servers1, .dead, .dead, vi k6, vi i7] [bx b0, bx b1, bx b2, rb r3, rb r4, rb r5, rb r6, rb r7, rb r8, rb r9, rb r10]))) := by
  induction k_ with
  | zero => exact fun _ _ _ _ _ _ _ _ _ _ _ _ _ _ => g0
  | succ k_ ih => exact fun _ _ _ _ _ _ _ _ _ _ _ _ _ _ => gA (g1 (g2 fun _ => g1 (g1 (g1 (g2 fun _ => g1 (g2 fun _ => g1 (ih _ _ _ _ _ _ _ _ _ _ _ _ _ _) g0) (ih _ _ _ _ _ _ _ _ _ _ _ _ _ _)) g0) g0) g0) g4) (by kernel_rfl)
theorem o110 : ZT c110 L110 (Z7 Tryz.f110) := GoodAll.ok (l := [l110_0]) (.cons 0 (by kernel_rfl) (gd0 (fun st => (((sv st 1).I) - ((sv st 5).I)).toNat + 1) (fun st => t110_0 _ _ _ _ _ _ _ _ _ _ _ _ _ _ _) fun st => by kernel_rfl) (.nil)) rfl
set_option maxRecDepth 100000 in
noncomputable def e110 : En Tryz.prog tab := enP base [e55, e155, e156, e73, e64] false [73] Tryz.func110 (L := L110) o110 [(.rf Zu [(.inl Zf), (.int .i64), (.int .i64)]), (.one (.int .i64))] (fun a => Zd6 ((rd a 0).unbox) ((rd a 1).I)) (fun r_ : V × V => ((h9 r_.1), [(V.rf Zu (l0 r_.2))])) [q10] [[(.inl Zf)]] [none, none] false (by kernel_rfl) fun _ => gA (g2 fun _ => g2 fun _ => g2 fun _ => g2 fun _ => g2 fun _ => g2 fun _ => g2 fun _ => g2 fun _ => g2 fun _ => g2 fun _ => g1 g4 (g2 fun _ => g1 (g1 (g2 fun _ => g1 (g2 fun _ => g1 g4 g0) g4) g0) (g1 (g1 (g2 fun _ => g4) g0) (g1 (g1 (g2 fun _ => g4) g0) g4)))) (by kernel_rfl)
noncomputable def c71 : Cfg := ZaA (P := Tryz.prog) (tab := tab) [e110, e64, e55, e92, e111] false []
def a71_0 (r_ : V × V × V × List V × List V × List V × List V × List V × List V × List V × List V) : List (Ex × St) := [((Ex.exit 1), (⟨[(4, (V.bp 1 0)), (5, (V.bp 2 0))], [(0, some (Blk.box Zu (l0 r_.1))), (1, some (Blk.box ZF (l5 r_.2.1))), (2, some (Blk.box ZF (l6 r_.2.2.1))), (3, some (Blk.row Zb true r_.2.2.2.1)), (4, some (Blk.row Zi true r_.2.2.2.2.1)), (5, some (Blk.row Ze true r_.2.2.2.2.2.1)), (6, some (Blk.row Ze true r_.2.2.2.2.2.2.1)), (7, some (Blk.row Zb false r_.2.2.2.2.2.2.2.1)), (8, some (Blk.row Zi true r_.2.2.2.2.2.2.2.2.1)), (9, some (Blk.row Ze true r_.2.2.2.2.2.2.2.2.2.1)), (10, some (Blk.row Ze true r_.2.2.2.2.2.2.2.2.2.2))], 11, [0]⟩ : St))]
def s71_0 : SS := ⟨[(0, (.one (.bp 0 0))), (4, (.one (.bp 1 0))), (5, (.one (.bp 2 0)))], [(.box Zu [(.inl Zf), (.int .i64), (.int .i64)]), (.box ZF q7), (.box ZF q8), (.row Zb true), (.row Zi true), (.row Ze true), (.row Ze true), (.row Zb false), (.row Zi true), (.row Ze true), (.row Ze true)], 11, [0]⟩
noncomputable def l71_0 : LE := le0 5 s71_0 (fun st => Zce ((401 - (br st 7).length) + 1) (bc st 0) (bc st 1) (bc st 2) (br st 3) (br st 4) (br st 5) (br st 6) (br st 7) (br st 8) (br st 9) (br st 10)) a71_0
noncomputable def L71 : Loops := ⟨fun k => (Zr [(5, [0, 4, 5])] k).getD [], fun k => (Zr [(5, [⟨4, some 3, true⟩, ⟨4, some 8, true⟩, ⟨4, some 9, true⟩, ⟨4, some 10, true⟩])] k).getD [], fun k => (Zr [(5, [4, 5])] k).getD [], runL [l71_0], [], fun _ => []⟩
theorem t71_0 (k_ : Nat) : ∀ (b0 : V) (b1 : V) (b2 : V) (r3 : List V) (r4 : List V) (r5 : List V) (r6 : List V) (r7 : List V) (r8 : List V) (r9 : List V) (r10 : List V), Agr id (pk0 a71_0) (Zce k_ b0 b1 b2 r3 r4 r5 r6 r7 r8 r9 r10) (Zac c71 L71 (lpB Tryz.f71 0) k_ (s71_0.mk' (stv [] [bx b0, bx b1, bx b2, rb r3, rb r4, rb r5, rb r6, rb r7, rb r8, rb r9, rb r10]))) := by
  induction k_ with
  | zero => exact fun _ _ _ _ _ _ _ _ _ _ _ => g0
  | succ k_ ih => exact fun _ _ _ _ _ _ _ _ _ _ _ => gA (g2 fun _ => g1 (g1 (ih _ _ _ _ _ _ _ _ _ _ _) g0) g4) (by kernel_rfl)
theorem o71 : ZT c71 L71 (Z7 Tryz.f71) := GoodAll.ok (l := [l71_0]) (.cons 0 (by kernel_rfl) (gd0 (fun st => (401 - (br st 7).length) + 1) (fun st => t71_0 _ _ _ _ _ _ _ _ _ _ _ _) fun st => by kernel_rfl) (.nil)) rfl
set_option maxRecDepth 100000 in
noncomputable def e71 : En Tryz.prog tab := enP base [e110, e64, e55, e92, e111] false [] Tryz.func71 (L := L71) o71 [(.rf Zu [(.inl Zf), (.int .i64), (.int .i64)]), (.one (.int .i64))] (fun a => Zd7 ((rd a 0).unbox) ((rd a 1).I)) (fun r_ : V × V => ((h9 r_.1), [(V.rf Zu (l0 r_.2))])) [q10] [[(.inl Zf)]] [none, none] false (by kernel_rfl) fun _ => gA (g2 fun _ => g2 fun _ => g1 g4 (g2 fun _ => g1 (g2 fun _ => g4) (g1 (g2 fun _ => g4) (g1 (g2 fun _ => g4) (g1 (g2 fun _ => g4) (g1 (g2 fun _ => g4) (g1 (g2 fun _ => g4) (g1 (g1 g4 g0) (g1 (g2 fun _ => g1 g4 g0) (g1 (g2 fun _ => g1 g4 g0) (g2 fun _ => g4))))))))))) (by kernel_rfl)
noncomputable def c112 : Cfg := ZaA (P := Tryz.prog) (tab := tab) [e55, e64, e111] false []
def a112_0 (r_ : V × V × V × List V × List V) : List (Ex × St) := [((Ex.exit 1), (⟨[(2, (V.bp 1 0)), (3, (V.bp 2 0))], [(0, some (Blk.box Zu (l0 r_.1))), (1, some (Blk.box Zk (l11 r_.2.1))), (2, some (Blk.box Zk (l12 r_.2.2.1))), (3, some (Blk.row Zb true r_.2.2.2.1)), (4, some (Blk.row Zb false r_.2.2.2.2))], 5, [0]⟩ : St))]
def s112_0 : SS := ⟨[(0, (.one (.bp 0 0))), (2, (.one (.bp 1 0))), (3, (.one (.bp 2 0))), (4, (.one (.int .i64))), (5, (.one (.int .i64))), (6, (.one (.int .i64)))], [(.box Zu [(.inl Zf), (.int .i64), (.int .i64)]), (.box Zk q13), (.box Zk q14), (.row Zb true), (.row Zb false)], 5, [0]⟩
noncomputable def l112_0 : LE := le0 17 s112_0 (fun st => Zar ((((sv st 3).I) - ((sv st 5).I)).toNat + 1) ((sv st 3).I) ((sv st 4).I) ((sv st 5).I) (bc st 0) (bc st 1) (bc st 2) (br st 3) (br st 4)) a112_0
noncomputable def L112 : Loops := ⟨fun k => (Zr [(17, [0, 2, 3, 4, 5, 6])] k).getD [], fun k => (Zr [(17, [⟨2, some 6, true⟩, ⟨3, some 6, false⟩])] k).getD [], fun k => (Zr [(17, [2, 3])] k).getD [], runL [l112_0], [], fun _ => []⟩
set_option maxRecDepth 100000 in
theorem t112_0 (k_ : Nat) : ∀ (n4 : Int) (t5 : Int) (i6 : Int) (b0 : V) (b1 : V) (b2 : V) (r3 : List V) (r4 : List V), Agr id (pk0 a112_0) (Zar k_ n4 t5 i6 b0 b1 b2 r3 r4) (Zac c112 L112 (lpB Tryz.f112 0) k_ (s112_0.mk' (stv [.dead, .dead, .dead, vi n4, vi t5, vi i6] [bx b0, bx b1, bx b2, rb r3, rb r4]))) := by
  induction k_ with
  | zero => exact fun _ _ _ _ _ _ _ _ => g0
  | succ k_ ih => exact fun _ _ _ _ _ _ _ _ => gA (g1 (g1 (g2 fun _ => g1 (g2 fun _ => g1 (ih _ _ _ _ _ _ _ _) g0) (g2 fun _ => g1 (ih _ _ _ _ _ _ _ _) g0)) (g2 fun _ => g1 (ih _ _ _ _ _ _ _ _) g0)) g4) (by kernel_rfl)
theorem o112 : ZT c112 L112 (Z7 Tryz.f112) := GoodAll.ok (l := [l112_0]) (.cons 0 (by kernel_rfl) (gd0 (fun st => (((sv st 3).I) - ((sv st 5).I)).toNat + 1) (fun st => t112_0 _ _ _ _ _ _ _ _ _) fun st => by kernel_rfl) (.nil)) rfl
set_option maxRecDepth 100000 in
noncomputable def e112 : En Tryz.prog tab := enP base [e55, e64, e111] false [] Tryz.func112 (L := L112) o112 [(.rf Zu [(.inl Zf), (.int .i64), (.int .i64)])] (fun a => Zd8 ((rd a 0).unbox)) (fun r_ : V × V => ((h15 r_.1), [(V.rf Zu (l0 r_.2))])) [q16] [[(.inl Zf)]] [none] false (by kernel_rfl) fun _ => gA (g2 fun _ => g2 fun _ => g2 fun _ => g2 fun _ => g1 (g2 fun _ => g1 (g2 fun _ => g1 (g2 fun _ => g2 fun _ => g1 (g2 fun _ => g4) (g2 fun _ => g4)) g4) (g1 (g2 fun _ => g2 fun _ => g2 fun _ => g4) g4)) (g1 (g2 fun _ => g1 (g2 fun _ => g1 (g2 fun _ => g2 fun _ => g1 (g2 fun _ => g4) (g2 fun _ => g4)) g4) (g1 (g2 fun _ => g2 fun _ => g2 fun _ => g4) g4)) (g1 (g2 fun _ => g2 fun _ => g4) (g2 fun _ => g4)))) (by kernel_rfl)
set_option maxRecDepth 100000 in
noncomputable def e72 : En Tryz.prog tab := enP base [e112, e64, e55, e92, e111] false [] Tryz.func72 Zan [(.rf Zu [(.inl Zf), (.int .i64), (.int .i64)])] (fun a => Zd9 ((rd a 0).unbox)) (fun r_ : V × V => ((h15 r_.1), [(V.rf Zu (l0 r_.2))])) [q16] [[(.inl Zf)]] [none] false (by kernel_rfl) fun _ => gA (g2 fun _ => g2 fun _ => g1 g4 (g2 fun _ => g1 (g2 fun _ => g4) (g1 (g2 fun _ => g4) (g1 (g2 fun _ => g4) (g1 (g2 fun _ => g4) (g1 (g2 fun _ => g4) (g1 (g2 fun _ => g2 fun _ => g1 g4 g0) (g2 fun _ => g4)))))))) (by kernel_rfl)
noncomputable def c29 : Cfg := ZaA (P := Tryz.prog) (tab := tab) [e41, e70, e71, e72, e64, e55, e73] false [73]
def a29_0 (r_ : Int × V × V × V × V × V × List V × List V × List V × List V × List V × List V × List V × List V × List V × List V) : List (Ex × St) := [((Ex.exit 0), (⟨[(2, (V.bp 0 0)), (4, (V.bp 1 0)), (5, (V.bp 2 0)), (6, (vi r_.1)), (7, (V.bp 3 0)), (8, (V.bp 4 0))], [(0, some (Blk.box ZF (l17 r_.2.1))), (1, some (Blk.box Zk (l18 r_.2.2.1))), (2, some (Blk.box Zu (l0 r_.2.2.2.1))), (3, some (Blk.box ZF (l19 r_.2.2.2.2.1))), (4, some (Blk.box Zk (l20 r_.2.2.2.2.2.1))), (5, some (Blk.row Zb true r_.2.2.2.2.2.2.1)), (6, some (Blk.row Zi true r_.2.2.2.2.2.2.2.1)), (7, some (Blk.row Ze true r_.2.2.2.2.2.2.2.2.1)), (8, some (Blk.row Ze true r_.2.2.2.2.2.2.2.2.2.1)), (9, some (Blk.row Zb true r_.2.2.2.2.2.2.2.2.2.2.1)), (10, some (Blk.row Zb false r_.2.2.2.2.2.2.2.2.2.2.2.1)), (11, some (Blk.row Zi true r_.2.2.2.2.2.2.2.2.2.2.2.2.1)), (12, some (Blk.row Ze true r_.2.2.2.2.2.2.2.2.2.2.2.2.2.1)), (13, some (Blk.row Ze true r_.2.2.2.2.2.2.2.2.2.2.2.2.2.2.1)), (14, some (Blk.row Zb false r_.2.2.2.2.2.2.2.2.2.2.2.2.2.2.2))], 15, []⟩ : St))]
def s29_0 : SS := ⟨[(2, (.one (.bp 0 0))), (4, (.one (.bp 1 0))), (5, (.one (.bp 2 0))), (6, (.one (.int .i64))), (7, (.one (.bp 3 0))), (8, (.one (.bp 4 0))), (9, (.one (.int .i64)))], [(.box ZF q21), (.box Zk q22), (.box Zu [(.inl Zf), (.int .i64), (.int .i64)]), (.box ZF q23), (.box Zk q24), (.row Zb true), (.row Zi true), (.row Ze true), (.row Ze true), (.row Zb true), (.row Zb false), (.row Zi true), (.row Ze true), (.row Ze true), (.row Zb false)], 15, []⟩
noncomputable def l29_0 : LE := le0 13 s29_0 (fun st => ZaM (((((br st 14).length : Nat) : Int) - ((sv st 6).I)).toNat + 1) ((sv st 3).I) ((sv st 6).I) (bc st 0) (bc st 1) (bc st 2) (bc st 3) (bc st 4) (br st 5) (br st 6) (br st 7) (br st 8) (br st 9) (br st 10) (br st 11) (br st 12) (br st 13) (br st 14)) a29_0
def a29_1 (r_ : Int × V × V × V × V × List V × List V × List V × List V × List V × List V × List V × List V × List V × List V) : List (Ex × St) := [((Ex.exit 2), (⟨[(2, (V.bp 0 0)), (4, (V.bp 1 0)), (6, (vi r_.1)), (7, (V.bp 2 0)), (8, (V.bp 3 0))], [(0, some (Blk.box ZF (l25 r_.2.1))), (1, some (Blk.box Zk (l26 r_.2.2.1))), (2, some (Blk.box ZF (l27 r_.2.2.2.1))), (3, some (Blk.box Zk (l28 r_.2.2.2.2.1))), (4, some (Blk.row Zb true r_.2.2.2.2.2.1)), (5, some (Blk.row Zi true r_.2.2.2.2.2.2.1)), (6, some (Blk.row Ze true r_.2.2.2.2.2.2.2.1)), (7, some (Blk.row Ze true r_.2.2.2.2.2.2.2.2.1)), (8, some (Blk.row Zb true r_.2.2.2.2.2.2.2.2.2.1)), (9, some (Blk.row Zb false r_.2.2.2.2.2.2.2.2.2.2.1)), (10, some (Blk.row Zi true r_.2.2.2.2.2.2.2.2.2.2.2.1)), (11, some (Blk.row Ze true r_.2.2.2.2.2.2.2.2.2.2.2.2.1)), (12, some (Blk.row Ze true r_.2.2.2.2.2.2.2.2.2.2.2.2.2.1)), (13, some (Blk.row Zb false r_.2.2.2.2.2.2.2.2.2.2.2.2.2.2))], 14, []⟩ : St))]
def s29_1 : SS := ⟨[(2, (.one (.bp 0 0))), (4, (.one (.bp 1 0))), (6, (.one (.int .i64))), (7, (.one (.bp 2 0))), (8, (.one (.bp 3 0))), (10, (.one (.int .i64)))], [(.box ZF q29), (.box Zk q30), (.box ZF q31), (.box Zk q32), (.row Zb true), (.row Zi true), (.row Ze true), (.row Ze true), (.row Zb true), (.row Zb false), (.row Zi true), (.row Ze true), (.row Ze true), (.row Zb false)], 14, []⟩
noncomputable def l29_1 : LE := le0 20 s29_1 (fun st => ZaX (((((br st 13).length : Nat) : Int) - ((sv st 5).I)).toNat + 1) ((sv st 2).I) ((sv st 5).I) (bc st 0) (bc st 1) (bc st 2) (bc st 3) (br st 4) (br st 5) (br st 6) (br st 7) (br st 8) (br st 9) (br st 10) (br st 11) (br st 12) (br st 13)) a29_1
noncomputable def L29 : Loops := ⟨fun k => (Zr [(13, [2, 4, 5, 6, 7, 8, 9]), (20, [2, 4, 6, 7, 8, 10])] k).getD [], fun k => (Zr [(13, [⟨2, some 3, true⟩, ⟨2, some 8, true⟩, ⟨2, some 9, true⟩, ⟨2, some 10, true⟩, ⟨4, some 6, true⟩]), (20, [⟨2, some 3, true⟩, ⟨2, some 8, true⟩, ⟨2, some 9, true⟩, ⟨2, some 10, true⟩, ⟨4, some 6, true⟩])] k).getD [], fun k => (Zr [(13, [2, 4, 5, 6, 7, 8]), (20, [2, 4, 6, 7, 8])] k).getD [], runL [l29_0, l29_1], [], fun _ => []⟩
theorem t29_0 (k_ : Nat) : ∀ (k6 : Int) (i9 : Int) (b0 : V) (b1 : V) (b2 : V) (b3 : V) (b4 : V) (r5 : List V) (r6 : List V) (r7 : List V) (r8 : List V) (r9 : List V) (r10 : List V) (r11 : List V) (r12 : List V) (r13 : List V) (r14 : List V), Agr id (pk0 a29_0) (ZaM k_ k6 i9 b0 b1 b2 b3 b4 r5 r6 r7 r8 r9 r10 r11 r12 r13 r14) (Zac c29 L29 (lpB Tryz.f29 0) k_ (s29_0.mk' (stv [.dead, .dead, .dead, vi k6, .dead, .dead, vi i9] [bx b0, bx b1, bx b2, bx b3, bx b4, rb r5, rb r6, rb r7, rb r8, rb r9, rb r10, rb r11, rb r12, rb r13, rb r14]))) := by
  induction k_ with
  | zero => exact fun _ _ _ _ _ _ _ _ _ _ _ _ _ _ _ _ _ => g0
  | succ k_ ih => exact fun _ _ _ _ _ _ _ _ _ _ _ _ _ _ _ _ _ => gA (g1 (g1 (g1 (g1 (ih _ _ _ _ _ _ _ _ _ _ _ _ _ _ _ _ _) g0) (ih _ _ _ _ _ _ _ _ _ _ _ _ _ _ _ _ _)) g0) g4) (by kernel_rfl)
theorem t29_1 (k_ : Nat) : ∀ (k6 : Int) (i10 : Int) (b0 : V) (b1 : V) (b2 : V) (b3 : V) (r4 : List V) (r5 : List V) (r6 : List V) (r7 : List V) (r8 : List V) (r9 : List V) (r10 : List V) (r11 : List V) (r12 : List V) (r13 : List V), Agr id (pk0 a29_1) (ZaX k_ k6 i10 b0 b1 b2 b3 r4 r5 r6 r7 r8 r9 r10 r11 r12 r13) (Zac c29 L29 (lpB Tryz.f29 1) k_ (s29_1.mk' (stv [.dead, .dead, vi k6, .dead, .dead, vi i10] [bx b0, bx b1, bx b2, bx b3, rb r4, rb r5, rb r6, rb r7, rb r8, rb r9, rb r10, rb r11, rb r12, rb r13]))) := by
  induction k_ with
  | zero => exact fun _ _ _ _ _ _ _ _ _ _ _ _ _ _ _ _ => g0
  | succ k_ ih => exact fun _ _ _ _ _ _ _ _ _ _ _ _ _ _ _ _ => gA (g1 (g1 (g1 (g1 (ih _ _ _ _ _ _ _ _ _ _ _ _ _ _ _ _) g0) (ih _ _ _ _ _ _ _ _ _ _ _ _ _ _ _ _)) g0) g4) (by kernel_rfl)
theorem o29 : ZT c29 L29 (Z7 Tryz.f29) := GoodAll.ok (l := [l29_0, l29_1]) (.cons 0 (by kernel_rfl) (gd0 (fun st => ((((br st 14).length : Nat) : Int) - ((sv st 6).I)).toNat + 1) (fun st => t29_0 _ _ _ _ _ _ _ _ _ _ _ _ _ _ _ _ _ _) fun st => by kernel_rfl) (.cons 1 (by kernel_rfl) (gd0 (fun st => ((((br st 13).length : Nat) : Int) - ((sv st 5).I)).toNat + 1) (fun st => t29_1 _ _ _ _ _ _ _ _ _ _ _ _ _ _ _ _ _) fun st => by kernel_rfl) (.nil))) rfl
set_option maxRecDepth 100000 in
noncomputable def e29 : En Tryz.prog tab := enP base [e41, e70, e71, e72, e64, e55, e73] false [73] Tryz.func29 (L := L29) o29 [(.one (.inl Zf))] (fun a => Zdx ((rd a 0).L)) (fun r_ : V × Int × V => ((V.tup [(h9 r_.1), (vi r_.2.1), (h15 r_.2.2)]), [])) [q10, [], q16] [] [some Zf] false (by kernel_rfl) fun _ => gA (g2 fun _ => g2 fun _ => g2 fun _ => g2 fun _ => g2 fun _ => g1 (g1 (g2 fun _ => g1 (g2 fun _ => g1 (g1 (g1 (g2 fun _ => g1 (g1 (g1 (g2 fun _ => g1 (g2 fun _ => g2 fun _ => g1 g4 g4) g4) g4) g4) g4) (g2 fun _ => g1 (g1 (g1 (g2 fun _ => g1 (g2 fun _ => g2 fun _ => g1 g4 g4) g4) g4) g4) g4)) (g1 (g1 (g1 (g2 fun _ => g1 (g2 fun _ => g2 fun _ => g1 g4 g4) g4) g4) g4) g4)) (g1 (g1 (g1 (g2 fun _ => g1 (g2 fun _ => g2 fun _ => g1 g4 g4) g4) g4) g4) g4)) g0) (g2 fun _ => g1 (g1 (g1 (g2 fun _ => g1 (g1 (g1 (g2 fun _ => g1 (g2 fun _ => g2 fun _ => g1 g4 g4) g4) g4) g4) g4) (g2 fun _ => g1 (g1 (g1 (g2 fun _ => g1 (g2 fun _ => g2 fun _ => g1 g4 g4) g4) g4) g4) g4)) (g1 (g1 (g1 (g2 fun _ => g1 (g2 fun _ => g2 fun _ => g1 g4 g4) g4) g4) g4) g4)) (g1 (g1 (g1 (g2 fun _ => g1 (g2 fun _ => g2 fun _ => g1 g4 g4) g4) g4) g4) g4))) (g2 fun _ => g1 (g1 (g1 (g2 fun _ => g1 (g1 (g1 (g2 fun _ => g1 (g2 fun _ => g2 fun _ => g1 g4 g4) g4) g4) g4) g4) (g2 fun _ => g1 (g1 (g1 (g2 fun _ => g1 (g2 fun _ => g2 fun _ => g1 g4 g4) g4) g4) g4) g4)) (g1 (g1 (g1 (g2 fun _ => g1 (g2 fun _ => g2 fun _ => g1 g4 g4) g4) g4) g4) g4)) (g1 (g1 (g1 (g2 fun _ => g1 (g2 fun _ => g2 fun _ => g1 g4 g4) g4) g4) g4) g4))) (by kernel_rfl)
noncomputable def e80 : En Tryz.prog tab := enT base [] false [] Tryz.func80 Zan [(.one (.int .i64)), (.one (.int .i64)), (.one (.int .i64))] (fun a => Zo ((rd a 0).I) ((rd a 1).I) ((rd a 2).I)) (fun r_ : Bool => ((V.bool r_), [])) [] [] [none, none, none] false (by kernel_rfl) fun _ => gT (g5 g7 g7) (by kernel_rfl)
noncomputable def e106 : En Tryz.prog tab := enT base [e80] false [] Tryz.func106 Zan [(.one (.int .i64)), (.one (.int .i64))] (fun a => Zdy ((rd a 0).I) ((rd a 1).I)) (fun r_ : Bool => ((V.bool r_), [])) [] [] [none, none] false (by kernel_rfl) fun _ => gT (g5 g7 g7) (by kernel_rfl)
noncomputable def e83 : En Tryz.prog tab := enT base [e80] false [] Tryz.func83 Zan [(.one (.int .i64))] (fun a => Zc7 ((rd a 0).I)) (fun r_ : Bool => ((V.bool r_), [])) [] [] [none] false (by kernel_rfl) fun _ => gT g7 (by kernel_rfl)
noncomputable def e160 : En Tryz.prog tab := enT base [] false [] Tryz.func160 Zan [] (fun a => Zb8) (fun r_ : V => ((h33 r_), [])) [q34] [] [] false (by kernel_rfl) fun _ => gT g7 (by kernel_rfl)
noncomputable def e171 : En Tryz.prog tab := enT base [] false [] Tryz.func171 Zan [(.one (.inl Zf)), (.one (.inl Zf))] (fun a => Zea ((rd a 0).L) ((rd a 1).L)) (fun r_ : Bool => ((V.bool r_), [])) [] [] [some Zf, some Zf] false (by kernel_rfl) fun _ => gT g7 (by kernel_rfl)
noncomputable def e133 : En Tryz.prog tab := enT base [e171] false [] Tryz.func133 Zan [(.agg q35), (.agg q35)] (fun a => impl_Op_same (rd a 0) (rd a 1)) (fun r_ : Bool => ((V.bool r_), [])) [] [] [none, none] false (by kernel_rfl) fun _ => gT (g5 (g5 (g5 g7 g7) g7) g7) (by kernel_rfl)
noncomputable def e164 : En Tryz.prog tab := enT base [e133] false [] Tryz.func164 Zan [(.agg q36), (.agg q36)] (fun a => Zdz (rd a 0) (rd a 1)) (fun r_ : Bool => ((V.bool r_), [])) [] [] [none, none] false (by kernel_rfl) fun _ => gT (g5 (g5 g7 g7) g7) (by kernel_rfl)
noncomputable def c134 : Cfg := ZaA (P := Tryz.prog) (tab := tab) [e80] false []
def a134_0 (r_ : Nat × List V × Bool) : List (Ex × St) := [(Ex.ret, (⟨[(0, (V.inl Zf r_.2.1)), (2, (V.bool r_.2.2))], [], 0, []⟩ : St)), ((Ex.exit 0), (⟨[(0, (V.inl Zf r_.2.1)), (2, V.dead)], [], 0, []⟩ : St))]
def s134_0 : SS := ⟨[(0, (.one (.inl Zf))), (5, (.one (.inl Zf))), (6, (.one (.int .i64))), (7, (.one (.int .i64)))], [], 0, []⟩
noncomputable def l134_0 : LE := le1 2 s134_0 (fun st => Zbi ((((sv st 2).I) - ((sv st 3).I)).toNat + 1) ((sv st 0).L) ((sv st 1).L) ((sv st 2).I) ((sv st 3).I)) a134_0
noncomputable def L134 : Loops := ⟨fun k => (Zr [(2, [0, 5, 6, 7])] k).getD [], fun _ => [], fun k => (Zr [(2, [0, 2])] k).getD [], runL [l134_0], [], fun _ => []⟩
set_option maxRecDepth 100000 in
theorem t134_0 (k_ : Nat) : ∀ (b0 : List V) (v5 : List V) (v6 : Int) (v7 : Int), Agr id (pk1 a134_0) (Zbi k_ b0 v5 v6 v7) (Zac c134 L134 (lpB Tryz.f134 0) k_ (s134_0.mk' (stv [V.inl 0 b0, V.inl 0 v5, vi v6, vi v7] []))) := by
  induction k_ with
  | zero => exact fun _ _ _ _ => g0
  | succ k_ ih => exact fun _ _ _ _ => gA (g1 (g1 (g1 (g1 g4 (ih _ _ _ _)) (g1 (g1 g4 (ih _ _ _ _)) (ih _ _ _ _))) g0) g4) (by kernel_rfl)
theorem o134 : ZT c134 L134 (Z7 Tryz.f134) := GoodAll.ok (l := [l134_0]) (.cons 0 (by kernel_rfl) (gd1 (fun st => (((sv st 2).I) - ((sv st 3).I)).toNat + 1) (fun st => t134_0 _ _ _ _ _) fun st => by kernel_rfl) (.nil)) rfl
noncomputable def e134 : En Tryz.prog tab := enP base [e80] false [] Tryz.func134 (L := L134) o134 [(.one (.inl Zf))] (fun a => ZcC ((rd a 0).L)) (fun r_ : Bool => ((V.bool r_), [])) [] [] [some Zf] false (by kernel_rfl) fun _ => gA (g2 fun _ => g1 g4 g4) (by kernel_rfl)
noncomputable def e170 : En Tryz.prog tab := enT base [] false [] Tryz.func170 Zan [(.one (.inl Zf))] (fun a => Zde ((rd a 0).L)) (fun r_ : Bool => ((V.bool r_), [])) [] [] [some Zf] false (by kernel_rfl) fun _ => gT g7 (by kernel_rfl)
set_option maxRecDepth 100000 in
noncomputable def e132 : En Tryz.prog tab := enP base [e80, e134, e170] false [] Tryz.func132 Zan [(.agg q35)] (fun a => impl_OpOk (rd a 0)) (fun r_ : Bool => ((V.bool r_), [])) [] [] [none] false (by kernel_rfl) fun _ => gA (g1 (g1 (g1 g4 g4) g4) (g1 (g1 (g2 fun _ => g1 (g1 g4 g4) g4) g4) (g1 (g1 (g2 fun _ => g1 (g1 g4 g4) g4) g4) (g1 (g1 (g2 fun _ => g1 g4 g4) g4) (g1 (g1 (g1 g4 g4) g4) (g1 (g1 (g1 g4 g4) g4) (g1 (g1 (g2 fun _ => g1 (g1 g4 g4) g4) g4) (g1 (g1 (g2 fun _ => g1 g4 g4) g4) g4)))))))) (by kernel_rfl)
noncomputable def e122 : En Tryz.prog tab := enP base [e160, e164, e80, e132] false [] Tryz.func122 Zan [(.agg q36)] (fun a => impl_CmdOk (rd a 0)) (fun r_ : Bool => ((V.bool r_), [])) [] [] [none] false (by kernel_rfl) fun _ => gA (g1 g4 (g1 (g1 (g2 fun _ => g4) g4) g4)) (by kernel_rfl)
noncomputable def e84 : En Tryz.prog tab := enP base [e83, e122] false [] Tryz.func84 Zan [(.agg q37)] (fun a => ZcN (rd a 0)) (fun r_ : Bool => ((V.bool r_), [])) [] [] [none] false (by kernel_rfl) fun _ => gA (g1 (g2 fun _ => g4) g4) (by kernel_rfl)
noncomputable def c152 : Cfg := ZaA (P := Tryz.prog) (tab := tab) [] false []
def a152_0 (r_ : Nat × Int) : List (Ex × St) := [(Ex.ret, (⟨[(4, (vi r_.2))], [], 0, []⟩ : St)), ((Ex.exit 0), (⟨[(4, V.dead)], [], 0, []⟩ : St))]
def s152_0 : SS := ⟨[(0, (.one (.inl Zi))), (1, (.one .bool)), (7, (.one (.int .i64))), (8, (.one (.int .i64)))], [], 0, []⟩
noncomputable def l152_0 : LE := le1 2 s152_0 (fun st => ZaF ((((sv st 2).I) - ((sv st 3).I)).toNat + 1) ((sv st 0).L) ((sv st 1).B) ((sv st 2).I) ((sv st 3).I)) a152_0
noncomputable def L152 : Loops := ⟨fun k => (Zr [(2, [0, 1, 7, 8])] k).getD [], fun _ => [], fun k => (Zr [(2, [4])] k).getD [], runL [l152_0], [], fun _ => []⟩
theorem t152_0 (k_ : Nat) : ∀ (s0 : List V) (v1 : Bool) (v7 : Int) (v8 : Int), Agr id (pk1 a152_0) (ZaF k_ s0 v1 v7 v8) (Zac c152 L152 (lpB Tryz.f152 0) k_ (s152_0.mk' (stv [V.inl 0 s0, V.bool v1, vi v7, vi v8] []))) := by
  induction k_ with
  | zero => exact fun _ _ _ _ => g0
  | succ k_ ih => exact fun _ _ _ _ => gA (g1 (g1 (g1 g4 (ih _ _ _ _)) g0) g4) (by kernel_rfl)
theorem o152 : ZT c152 L152 (Z7 Tryz.f152) := GoodAll.ok (l := [l152_0]) (.cons 0 (by kernel_rfl) (gd1 (fun st => (((sv st 2).I) - ((sv st 3).I)).toNat + 1) (fun st => t152_0 _ _ _ _ _) fun st => by kernel_rfl) (.nil)) rfl
noncomputable def e152 : En Tryz.prog tab := enP base [] false [] Tryz.func152 (L := L152) o152 [(.one (.inl Zi)), (.one .bool)] (fun a => Zdp ((rd a 0).L) ((rd a 1).B)) (fun r_ : Int => ((vi r_), [])) [] [] [some Zi, none] false (by kernel_rfl) fun _ => gA (g2 fun _ => g1 g4 g4) (by kernel_rfl)
noncomputable def e107 : En Tryz.prog tab := enP base [e152] false [] Tryz.func107 Zan [(.one (.inl Zi)), (.one .bool)] (fun a => Zb4 ((rd a 0).L) ((rd a 1).B)) (fun r_ : Bool => ((V.bool r_), [])) [] [] [some Zi, none] false (by kernel_rfl) fun _ => gA (g2 fun _ => g4) (by kernel_rfl)
noncomputable def c60 : Cfg := ZaA (P := Tryz.prog) (tab := tab) [e106, e80, e84, e107] false []
def a60_0 (r_ : Nat × Int × Bool × V) : List (Ex × St) := [(Ex.ret, (⟨[(1, (vi r_.2.1)), (2, (V.bp 0 0)), (4, (V.bool r_.2.2.1))], [(0, some (Blk.box ZF (l38 r_.2.2.2)))], 1, []⟩ : St)), ((Ex.exit 0), (⟨[(1, (vi r_.2.1)), (2, (V.bp 0 0)), (4, V.dead)], [(0, some (Blk.box ZF (l38 r_.2.2.2)))], 1, []⟩ : St))]
def s60_0 : SS := ⟨[(1, (.one (.int .i64))), (2, (.one (.bp 0 0))), (5, (.one (.int .i64))), (43, (.one (.inl Zb))), (44, (.one (.int .i64))), (45, (.one (.int .i64)))], [(.box ZF q4)], 1, []⟩
noncomputable def l60_0 : LE := le1 5 s60_0 (fun st => ZaP ((((sv st 4).I) - ((sv st 5).I)).toNat + 1) ((sv st 0).I) ((sv st 2).I) ((sv st 3).L) ((sv st 4).I) ((sv st 5).I) (bc st 0)) a60_0
def a60_1 (r_ : Nat × Bool) : List (Ex × St) := [(Ex.ret, (⟨[(4, (V.bool r_.2))], [], 0, []⟩ : St)), ((Ex.exit 2), (⟨[(4, V.dead)], [], 0, []⟩ : St))]
def s60_1 : SS := ⟨[(2, (.one (.bp 0 0))), (141, (.one (.int .i64))), (142, (.one (.int .i64)))], [(.box ZF q4)], 1, []⟩
noncomputable def l60_1 : LE := le1 16 s60_1 (fun st => ZL ((((sv st 1).I) - ((sv st 2).I)).toNat + 1) ((sv st 1).I) ((sv st 2).I) (bc st 0)) a60_1
noncomputable def L60 : Loops := ⟨fun k => (Zr [(5, [1, 2, 5, 43, 44, 45]), (16, [2, 141, 142])] k).getD [], fun _ => [], fun k => (Zr [(5, [1, 2, 4]), (16, [4])] k).getD [], runL [l60_0, l60_1], [], fun _ => []⟩
theorem t60_0 (k_ : Nat) : ∀ (servers1 : Int) (term5 : Int) (v43 : List V) (v44 : Int) (v45 : Int) (b0 : V), Agr id (pk1 a60_0) (ZaP k_ servers1 term5 v43 v44 v45 b0) (Zac c60 L60 (lpB Tryz.f60 0) k_ (s60_0.mk' (stv [vi servers1, .dead, vi term5, V.inl 0 v43, vi v44, vi v45] [bx b0]))) := by
  induction k_ with
  | zero => exact fun _ _ _ _ _ _ => g0
  | succ k_ ih => exact fun _ _ _ _ _ _ => gA (g1 (g1 (g2 fun _ => g1 g4 (g1 g4 (ih _ _ _ _ _ _))) g0) g4) (by kernel_rfl)
set_option maxRecDepth 100000 in
theorem t60_1 (k_ : Nat) : ∀ (v141 : Int) (v142 : Int) (b0 : V), Agr id (pk1 a60_1) (ZL k_ v141 v142 b0) (Zac c60 L60 (lpB Tryz.f60 1) k_ (s60_1.mk' (stv [.dead, vi v141, vi v142] [bx b0]))) := by
  induction k_ with
  | zero => exact fun _ _ _ => g0
  | succ k_ ih => exact fun _ _ _ => gA (g1 (g1 (g1 (g1 g4 (g1 (g1 g4 (g1 (g1 (g1 g4 (g1 (g1 g4 (ih _ _ _)) g0)) g0) (ih _ _ _))) g0)) g0) (g1 (g1 (g1 g4 (g1 (g1 g4 (ih _ _ _)) g0)) g0) (ih _ _ _))) g4) (by kernel_rfl)
theorem o60 : ZT c60 L60 (Z7 Tryz.f60) := GoodAll.ok (l := [l60_0, l60_1]) (.cons 0 (by kernel_rfl) (gd1 (fun st => (((sv st 4).I) - ((sv st 5).I)).toNat + 1) (fun st => t60_0 _ _ _ _ _ _ _) fun st => by kernel_rfl) (.cons 1 (by kernel_rfl) (gd1 (fun st => (((sv st 1).I) - ((sv st 2).I)).toNat + 1) (fun st => t60_1 _ _ _ _) fun st => by kernel_rfl) (.nil))) rfl
set_option maxRecDepth 100000 in
noncomputable def e60 : En Tryz.prog tab := enP base [e106, e80, e84, e107] false [] Tryz.func60 (L := L60) o60 [(.agg q4), (.one (.int .i64))] (fun a => Zc8 (rd a 0) ((rd a 1).I)) (fun r_ : Bool => ((V.bool r_), [])) [] [] [none, none] false (by kernel_rfl) fun _ => gA (g1 g4 (g1 g4 (g1 g4 (g1 g4 (g1 g4 (g2 fun _ => g1 g4 (g1 g4 (g1 g4 (g1 g4 (g1 g4 (g1 g4 (g1 g4 (g1 (g2 fun _ => g1 g4 (g1 (g1 g4 (g1 g4 (g1 (g1 g4 (g2 fun _ => g1 g4 g4)) (g2 fun _ => g1 g4 g4)))) (g1 (g1 g4 (g2 fun _ => g1 g4 g4)) (g2 fun _ => g1 g4 g4)))) (g1 (g1 g4 (g1 g4 (g1 (g1 g4 (g2 fun _ => g1 g4 g4)) (g2 fun _ => g1 g4 g4)))) (g1 (g1 g4 (g2 fun _ => g1 g4 g4)) (g2 fun _ => g1 g4 g4)))))))))))))))) (by kernel_rfl)
noncomputable def c34 : Cfg := ZaA (P := Tryz.prog) (tab := tab) [e80, e83, e84] false []
def a34_0 (r_ : Nat × Bool × V) : List (Ex × St) := [(Ex.ret, (⟨[(1, (V.bp 0 0)), (2, (V.bool r_.2.1))], [(0, some (Blk.box Zk (l39 r_.2.2)))], 1, []⟩ : St)), ((Ex.exit 0), (⟨[(1, (V.bp 0 0)), (2, V.dead)], [(0, some (Blk.box Zk (l39 r_.2.2)))], 1, []⟩ : St))]
def s34_0 : SS := ⟨[(1, (.one (.bp 0 0))), (3, (.one (.int .i64))), (109, (.one (.inl Zb))), (110, (.one (.int .i64))), (111, (.one (.int .i64)))], [(.box Zk q40)], 1, []⟩
noncomputable def l34_0 : LE := le1 11 s34_0 (fun st => Zz ((((sv st 3).I) - ((sv st 4).I)).toNat + 1) ((sv st 1).I) ((sv st 2).L) ((sv st 3).I) ((sv st 4).I) (bc st 0)) a34_0
noncomputable def L34 : Loops := ⟨fun k => (Zr [(11, [1, 3, 109, 110, 111])] k).getD [], fun _ => [], fun k => (Zr [(11, [1, 2])] k).getD [], runL [l34_0], [], fun _ => []⟩
theorem t34_0 (k_ : Nat) : ∀ (term3 : Int) (v109 : List V) (v110 : Int) (v111 : Int) (b0 : V), Agr id (pk1 a34_0) (Zz k_ term3 v109 v110 v111 b0) (Zac c34 L34 (lpB Tryz.f34 0) k_ (s34_0.mk' (stv [.dead, vi term3, V.inl 0 v109, vi v110, vi v111] [bx b0]))) := by
  induction k_ with
  | zero => exact fun _ _ _ _ _ => g0
  | succ k_ ih => exact fun _ _ _ _ _ => gA (g1 (g1 (g2 fun _ => g1 g4 (g1 g4 (ih _ _ _ _ _))) g0) g4) (by kernel_rfl)
theorem o34 : ZT c34 L34 (Z7 Tryz.f34) := GoodAll.ok (l := [l34_0]) (.cons 0 (by kernel_rfl) (gd1 (fun st => (((sv st 3).I) - ((sv st 4).I)).toNat + 1) (fun st => t34_0 _ _ _ _ _ _) fun st => by kernel_rfl) (.nil)) rfl
set_option maxRecDepth 100000 in
noncomputable def e34 : En Tryz.prog tab := enP base [e80, e83, e84] false [] Tryz.func34 (L := L34) o34 [(.agg q40)] (fun a => Zdl (rd a 0)) (fun r_ : Bool => ((V.bool r_), [])) [] [] [none] false (by kernel_rfl) fun _ => gA (g1 g4 (g1 g4 (g1 g4 (g1 g4 (g1 g4 (g1 (g1 g4 (g1 g4 (g1 (g1 g4 (g1 (g1 g4 g4) (g1 (g1 g4 g4) (g1 g4 (g1 g4 (g1 (g1 g4 (g1 (g1 g4 (g2 fun _ => g1 g4 (g1 (g1 g4 g4) g4))) (g2 fun _ => g1 g4 (g1 (g1 g4 g4) g4)))) (g1 (g1 g4 (g2 fun _ => g1 g4 (g1 (g1 g4 g4) g4))) (g2 fun _ => g1 g4 (g1 (g1 g4 g4) g4))))))))) (g1 (g1 g4 g4) (g1 (g1 g4 g4) (g1 g4 (g1 g4 (g1 (g1 g4 (g1 (g1 g4 (g2 fun _ => g1 g4 (g1 (g1 g4 g4) g4))) (g2 fun _ => g1 g4 (g1 (g1 g4 g4) g4)))) (g1 (g1 g4 (g2 fun _ => g1 g4 (g1 (g1 g4 g4) g4))) (g2 fun _ => g1 g4 (g1 (g1 g4 g4) g4))))))))))) (g1 (g1 g4 (g1 (g1 g4 g4) (g1 (g1 g4 g4) (g1 g4 (g1 g4 (g1 (g1 g4 (g1 (g1 g4 (g2 fun _ => g1 g4 (g1 (g1 g4 g4) g4))) (g2 fun _ => g1 g4 (g1 (g1 g4 g4) g4)))) (g1 (g1 g4 (g2 fun _ => g1 g4 (g1 (g1 g4 g4) g4))) (g2 fun _ => g1 g4 (g1 (g1 g4 g4) g4))))))))) (g1 (g1 g4 g4) (g1 (g1 g4 g4) (g1 g4 (g1 g4 (g1 (g1 g4 (g1 (g1 g4 (g2 fun _ => g1 g4 (g1 (g1 g4 g4) g4))) (g2 fun _ => g1 g4 (g1 (g1 g4 g4) g4)))) (g1 (g1 g4 (g2 fun _ => g1 g4 (g1 (g1 g4 g4) g4))) (g2 fun _ => g1 g4 (g1 (g1 g4 g4) g4))))))))))))))) (by kernel_rfl)
noncomputable def e149 : En Tryz.prog tab := enN base [] false [] Tryz.func149 Zan Zf Zby (fun r_ : List V => ((V.rr Zf true r_), [])) [[(.rr Zf true)]] [] [some Zf] false (by kernel_rfl) (fun _ => gA (g1 g4 g0) (by kernel_rfl)) (by
  have h : evalW (wkF [[(.rr Zf true)]] []) (ZaA (P := Tryz.prog) (tab := tab) [] false []) noL Tryz.f149 [V.nl Zf] = (some (wkF [[(.rr Zf true)]] [] ((V.nil Zf), []))) := by kernel_rfl
  rw [h, Zby]
  clear h
  intro r h; revert h; simp only [List.length_nil]; intro h; first | (cases h; kernel_rfl) | (revert h; simp [Z1]; intro h; subst h; kernel_rfl))
noncomputable def e172 : En Tryz.prog tab := enP base [e149] false [] Tryz.func172 Zan [(.agg q35)] (fun a => Zeb (rd a 0)) (fun r_ : V => ((h41 r_), [])) [q42] [] [none] false (by kernel_rfl) fun _ => gA (g2 fun _ => g2 fun _ => g4) (by kernel_rfl)
noncomputable def e158 : En Tryz.prog tab := enP base [e172] false [] Tryz.func158 Zan [(.agg q36)] (fun a => Zbu (rd a 0)) (fun r_ : V => ((h33 r_), [])) [q34] [] [none] false (by kernel_rfl) fun _ => gA (g2 fun _ => g4) (by kernel_rfl)
noncomputable def c113 : Cfg := ZaA (P := Tryz.prog) (tab := tab) [e158] false []
def a113_0 (r_ : List V) : List (Ex × St) := [((Ex.exit 0), (⟨[(3, (vs 0 Zb))], [(0, some (Blk.row Zb true r_))], 1, []⟩ : St))]
def s113_0 : SS := ⟨[(3, (.one (.sl 0 Zb))), (6, (.one (.inl Zb))), (7, (.one (.int .i64))), (8, (.one (.int .i64)))], [(.row Zb true)], 1, []⟩
noncomputable def l113_0 : LE := le0 3 s113_0 (fun st => Zbk ((((sv st 2).I) - ((sv st 3).I)).toNat + 1) ((sv st 1).L) ((sv st 2).I) ((sv st 3).I) (br st 0)) a113_0
noncomputable def L113 : Loops := ⟨fun k => (Zr [(3, [3, 6, 7, 8])] k).getD [], fun k => (Zr [(3, [⟨3, none, true⟩])] k).getD [], fun k => (Zr [(3, [3])] k).getD [], runL [l113_0], [], fun _ => []⟩
theorem t113_0 (k_ : Nat) : ∀ (v6 : List V) (v7 : Int) (v8 : Int) (r0 : List V), Agr id (pk0 a113_0) (Zbk k_ v6 v7 v8 r0) (Zac c113 L113 (lpB Tryz.f113 0) k_ (s113_0.mk' (stv [.dead, V.inl 0 v6, vi v7, vi v8] [rb r0]))) := by
  induction k_ with
  | zero => exact fun _ _ _ _ => g0
  | succ k_ ih => exact fun _ _ _ _ => gA (g1 (g1 (g2 fun _ => g1 (ih _ _ _ _) g0) g0) g4) (by kernel_rfl)
theorem o113 : ZT c113 L113 (Z7 Tryz.f113) := GoodAll.ok (l := [l113_0]) (.cons 0 (by kernel_rfl) (gd0 (fun st => (((sv st 2).I) - ((sv st 3).I)).toNat + 1) (fun st => t113_0 _ _ _ _ _) fun st => by kernel_rfl) (.nil)) rfl
noncomputable def e113 : En Tryz.prog tab := enP base [e158] false [] Tryz.func113 (L := L113) o113 [(.one (.inl Zb))] (fun a => Zc2 ((rd a 0).L)) (fun r_ : List V => ((V.rr Zb true r_), [])) [[(.rr Zb true)]] [] [some Zb] false (by kernel_rfl) fun _ => gA (g2 fun _ => g4) (by kernel_rfl)
noncomputable def e114 : En Tryz.prog tab := enN base [] false [] Tryz.func114 Zan Zi Zb0 (fun r_ : List V => ((V.rr Zi true r_), [])) [[(.rr Zi true)]] [] [some Zi] false (by kernel_rfl) (fun _ => gA (g1 g4 g0) (by kernel_rfl)) (by
  have h : evalW (wkF [[(.rr Zi true)]] []) (ZaA (P := Tryz.prog) (tab := tab) [] false []) noL Tryz.f114 [V.nl Zi] = (some (wkF [[(.rr Zi true)]] [] ((V.nil Zi), []))) := by kernel_rfl
  rw [h, Zb0]
  clear h
  intro r h; revert h; simp only [List.length_nil]; intro h; first | (cases h; kernel_rfl) | (revert h; simp [Z1]; intro h; subst h; kernel_rfl))
noncomputable def e115 : En Tryz.prog tab := enN base [] false [] Tryz.func115 Zan Ze ZbG (fun r_ : List V => ((V.rr Ze true r_), [])) [[(.rr Ze true)]] [] [some Ze] false (by kernel_rfl) (fun _ => gA (g1 g4 g0) (by kernel_rfl)) (by
  have h : evalW (wkF [[(.rr Ze true)]] []) (ZaA (P := Tryz.prog) (tab := tab) [] false []) noL Tryz.f115 [V.nl Ze] = (some (wkF [[(.rr Ze true)]] [] ((V.nil Ze), []))) := by kernel_rfl
  rw [h, ZbG]
  clear h
  intro r h; revert h; simp only [List.length_nil]; intro h; first | (cases h; kernel_rfl) | (revert h; simp [Z1]; intro h; subst h; kernel_rfl))
noncomputable def e74 : En Tryz.prog tab := enP base [e113, e114, e115] false [] Tryz.func74 Zan [(.agg q4)] (fun a => ZdA (rd a 0)) (fun r_ : V => ((h1 r_), [])) [q2] [] [none] false (by kernel_rfl) fun _ => gA (g2 fun _ => g2 fun _ => g2 fun _ => g2 fun _ => g4) (by kernel_rfl)
noncomputable def e116 : En Tryz.prog tab := enT base [] false [] Tryz.func116 Zan [(.rf Zx q43), (.one (.int .i64))] (fun a => Zd ((rd a 0).unbox) ((rd a 1).I)) (fun r_ : V => ((V.tup []), [(V.rf Zx (l44 r_))])) [] [q45] [none, none] false (by kernel_rfl) fun _ => gT (g5 g7 g7) (by kernel_rfl)
noncomputable def e62 : En Tryz.prog tab := enP base [e80] false [] Tryz.func62 Zan [(.agg q4), (.one (.int .i64))] (fun a => Zad (rd a 0) ((rd a 1).I)) (fun r_ : Int => ((vi r_), [])) [] [] [none, none] false (by kernel_rfl) fun _ => gA (g1 g4 (g1 g4 g0)) (by kernel_rfl)
noncomputable def e108 : En Tryz.prog tab := enP base [e62] false [] Tryz.func108 Zan [(.agg q4)] (fun a => ZbP (rd a 0)) (fun r_ : Int => ((vi r_), [])) [] [] [none] false (by kernel_rfl) fun _ => gA (g2 fun _ => g4) (by kernel_rfl)
noncomputable def e61 : En Tryz.prog tab := enP base [e108] false [] Tryz.func61 Zan [(.agg q4), (.one (.int .i64)), (.one (.int .i64))] (fun a => Zbv (rd a 0) ((rd a 1).I) ((rd a 2).I)) (fun r_ : Bool => ((V.bool r_), [])) [] [] [none, none, none] false (by kernel_rfl) fun _ => gA (g2 fun _ => g1 g4 (g2 fun _ => g1 g4 g4)) (by kernel_rfl)
noncomputable def e159 : En Tryz.prog tab := enT base [] false [] Tryz.func159 Zan [(.agg q4), (.one (.int .i64))] (fun a => ZcS (rd a 0) ((rd a 1).I)) (fun r_ : Bool => ((V.bool r_), [])) [] [] [none, none] false (by kernel_rfl) fun _ => gT g7 (by kernel_rfl)
noncomputable def c161 : Cfg := ZaA (P := Tryz.prog) (tab := tab) [e62, e159] false []
def a161_0 (r_ : Int × Int × V × List V × List V × List V × List V × List V) : List (Ex × St) := [((Ex.exit 2), (⟨[(0, (V.bp 0 0)), (2, (vi r_.1)), (3, (vi r_.2.1))], [(0, some (Blk.box Zx (l46 r_.2.2.1))), (1, some (Blk.row Zb true r_.2.2.2.1)), (2, some (Blk.row Zi true r_.2.2.2.2.1)), (3, some (Blk.row Ze true r_.2.2.2.2.2.1)), (4, some (Blk.row Ze true r_.2.2.2.2.2.2.1)), (5, some (Blk.row Zk true r_.2.2.2.2.2.2.2))], 6, [0]⟩ : St))]
def s161_0 : SS := ⟨[(0, (.one (.bp 0 0))), (2, (.one (.int .i64))), (3, (.one (.int .i64))), (60, (.one (.sl 1 Ze))), (61, (.one (.int .i64))), (62, (.one (.int .i64)))], [(.box Zx q47), (.row Ze true), (.row Zb true), (.row Zi true), (.row Ze true), (.row Zk true)], 6, [0]⟩
noncomputable def l161_0 : LE := le0 6 s161_0 (fun st => Z0 ((((sv st 4).I) - ((sv st 5).I)).toNat + 1) ((sv st 1).I) ((sv st 2).I) ((sv st 4).I) ((sv st 5).I) (bc st 0) (br st 1) (br st 2) (br st 3) (br st 4) (br st 5)) a161_0
def a161_1 (r_ : Nat × V × List V × List V × List V × List V × List V) : List (Ex × St) := [(Ex.ret, (⟨[], [(0, some (Blk.box Zx (l46 r_.2.1))), (1, some (Blk.row Zb true r_.2.2.1)), (2, some (Blk.row Zi true r_.2.2.2.1)), (3, some (Blk.row Ze true r_.2.2.2.2.1)), (4, some (Blk.row Ze true r_.2.2.2.2.2.1)), (5, some (Blk.row Zk true r_.2.2.2.2.2.2))], 6, [0]⟩ : St)), ((Ex.exit 0), (⟨[], [(0, some (Blk.box Zx (l46 r_.2.1))), (1, some (Blk.row Zb true r_.2.2.1)), (2, some (Blk.row Zi true r_.2.2.2.1)), (3, some (Blk.row Ze true r_.2.2.2.2.1)), (4, some (Blk.row Ze true r_.2.2.2.2.2.1)), (5, some (Blk.row Zk true r_.2.2.2.2.2.2))], 6, [0]⟩ : St))]
def s161_1 : SS := ⟨[(0, (.one (.bp 0 0))), (2, (.one (.int .i64)))], [(.box Zx q48), (.row Zb true), (.row Zi true), (.row Ze true), (.row Ze true), (.row Zk true)], 6, [0]⟩
noncomputable def l161_1 : LE := le1 2 s161_1 (fun st => Z9 ((((sv st 1).I) - (gi (bc st 0) 4)).toNat + 1) ((sv st 1).I) (bc st 0) (br st 1) (br st 2) (br st 3) (br st 4) (br st 5)) a161_1
noncomputable def L161 : Loops := ⟨fun k => (Zr [(2, [0, 2]), (6, [0, 2, 3, 60, 61, 62])] k).getD [], fun _ => [], fun k => (Zr [(2, []), (6, [0, 2, 3])] k).getD [], runL [l161_0, l161_1], [], fun _ => []⟩
theorem t161_0 (k_ : Nat) : ∀ (place2 : Int) (count3 : Int) (v61 : Int) (v62 : Int) (b0 : V) (r1 : List V) (r2 : List V) (r3 : List V) (r4 : List V) (r5 : List V), Agr id (pk0 a161_0) (Z0 k_ place2 count3 v61 v62 b0 r1 r2 r3 r4 r5) (Zac c161 L161 (lpB Tryz.f161 1) k_ (s161_0.mk' (stv [.dead, vi place2, vi count3, .dead, vi v61, vi v62] [bx b0, rb r1, rb r2, rb r3, rb r4, rb r5]))) := by
  induction k_ with
  | zero => exact fun _ _ _ _ _ _ _ _ _ _ => g0
  | succ k_ ih => exact fun _ _ _ _ _ _ _ _ _ _ => gA (g1 (g1 (g1 (ih _ _ _ _ _ _ _ _ _ _) (ih _ _ _ _ _ _ _ _ _ _)) g0) g4) (by kernel_rfl)
theorem t161_1 (k_ : Nat) : ∀ (place2 : Int) (b0 : V) (r1 : List V) (r2 : List V) (r3 : List V) (r4 : List V) (r5 : List V), Agr id (pk1 a161_1) (Z9 k_ place2 b0 r1 r2 r3 r4 r5) (Zac c161 L161 (lpB Tryz.f161 0) k_ (s161_1.mk' (stv [.dead, vi place2] [bx b0, rb r1, rb r2, rb r3, rb r4, rb r5]))) := by
  induction k_ with
  | zero => exact fun _ _ _ _ _ _ _ => g0
  | succ k_ ih => exact fun _ _ _ _ _ _ _ => gA (g1 (g2 fun _ => g2 fun _ => g1 (g1 g4 (ih _ _ _ _ _ _ _)) (ih _ _ _ _ _ _ _)) g4) (by kernel_rfl)
theorem o161 : ZT c161 L161 (Z7 Tryz.f161) := GoodAll.ok (l := [l161_0, l161_1]) (.cons 1 (by kernel_rfl) (gd0 (fun st => (((sv st 4).I) - ((sv st 5).I)).toNat + 1) (fun st => t161_0 _ _ _ _ _ _ _ _ _ _ _) fun st => by kernel_rfl) (.cons 0 (by kernel_rfl) (gd1 (fun st => (((sv st 1).I) - (gi (bc st 0) 4)).toNat + 1) (fun st => t161_1 _ _ _ _ _ _ _ _) fun st => by kernel_rfl) (.nil))) rfl
noncomputable def e161 : En Tryz.prog tab := enP base [e62, e159] false [] Tryz.func161 (L := L161) o161 [(.rf Zx q43)] (fun a => ZaY ((rd a 0).unbox)) (fun r_ : V => ((V.tup []), [(V.rf Zx (l44 r_))])) [] [q45] [none] false (by kernel_rfl) fun _ => gA (g1 (g1 (g2 fun _ => g1 g4 g4) g0) g0) (by kernel_rfl)
noncomputable def c78 : Cfg := ZaA (P := Tryz.prog) (tab := tab) [] false []
def a78_0 (r_ : List V) : List (Ex × St) := [((Ex.exit 0), (⟨[(3, (vs 0 Ze))], [(0, some (Blk.row Ze true r_))], 1, []⟩ : St))]
def s78_0 : SS := ⟨[(1, (.one (.bp 0 0))), (3, (.one (.sl 1 Ze))), (7, (.one (.int .i64))), (8, (.one (.int .i64)))], [(.box ZF q4), (.row Ze true)], 2, []⟩
noncomputable def l78_0 : LE := le0 3 s78_0 (fun st => Z6 ((((sv st 2).I) - ((sv st 3).I)).toNat + 1) ((sv st 2).I) ((sv st 3).I) (bc st 0) (br st 1)) a78_0
noncomputable def L78 : Loops := ⟨fun k => (Zr [(3, [1, 3, 7, 8])] k).getD [], fun k => (Zr [(3, [⟨3, none, true⟩])] k).getD [], fun k => (Zr [(3, [3])] k).getD [], runL [l78_0], [], fun _ => []⟩
theorem t78_0 (k_ : Nat) : ∀ (v7 : Int) (v8 : Int) (b0 : V) (r1 : List V), Agr id (pk0 a78_0) (Z6 k_ v7 v8 b0 r1) (Zac c78 L78 (lpB Tryz.f78 0) k_ (s78_0.mk' (stv [.dead, .dead, vi v7, vi v8] [bx b0, rb r1]))) := by
  induction k_ with
  | zero => exact fun _ _ _ _ => g0
  | succ k_ ih => exact fun _ _ _ _ => gA (g1 (g1 (g1 (ih _ _ _ _) g0) (ih _ _ _ _)) g4) (by kernel_rfl)
theorem o78 : ZT c78 L78 (Z7 Tryz.f78) := GoodAll.ok (l := [l78_0]) (.cons 0 (by kernel_rfl) (gd0 (fun st => (((sv st 2).I) - ((sv st 3).I)).toNat + 1) (fun st => t78_0 _ _ _ _ _) fun st => by kernel_rfl) (.nil)) rfl
noncomputable def e78 : En Tryz.prog tab := enP base [] false [] Tryz.func78 (L := L78) o78 [(.agg q4)] (fun a => Zbl (rd a 0)) (fun r_ : List V => ((V.rr Ze true r_), [])) [[(.rr Ze true)]] [] [none] false (by kernel_rfl) fun _ => gA (g2 fun _ => g4) (by kernel_rfl)
noncomputable def e82 : En Tryz.prog tab := enP base [e62, e113] false [] Tryz.func82 Zan [(.agg q4), (.one (.int .i64))] (fun a => Zb1 (rd a 0) ((rd a 1).I)) (fun r_ : V => ((h49 r_), [])) [q50] [] [none, none] false (by kernel_rfl) fun _ => gA (g1 (g1 (g1 (g2 fun _ => g2 fun _ => g4) g0) g0) g0) (by kernel_rfl)
noncomputable def e163 : En Tryz.prog tab := enP base [e82] false [] Tryz.func163 Zan [(.rf Zx q43), (.one (.int .i64))] (fun a => Zbm ((rd a 0).unbox) ((rd a 1).I)) (fun r_ : V => ((V.tup []), [(V.rf Zx (l44 r_))])) [] [q45] [none, none] false (by kernel_rfl) fun _ => gA (g2 fun _ => g1 g4 g0) (by kernel_rfl)
noncomputable def c162 : Cfg := ZaA (P := Tryz.prog) (tab := tab) [e78, e163] false []
def a162_0 (r_ : V × List V × List V × List V × List V × List V) : List (Ex × St) := [((Ex.exit 0), (⟨[], [(0, some (Blk.box Zx (l46 r_.1))), (1, some (Blk.row Zb true r_.2.1)), (2, some (Blk.row Zi true r_.2.2.1)), (3, some (Blk.row Ze true r_.2.2.2.1)), (4, some (Blk.row Ze true r_.2.2.2.2.1)), (5, some (Blk.row Zk true r_.2.2.2.2.2))], 6, [0]⟩ : St))]
def s162_0 : SS := ⟨[(0, (.one (.bp 0 0))), (8, (.one (.sl 1 Ze))), (9, (.one (.int .i64))), (10, (.one (.int .i64)))], [(.box Zx q51), (.row Ze true), (.row Zb true), (.row Zi true), (.row Ze true), (.row Ze true), (.row Zk true)], 7, [0]⟩
noncomputable def l162_0 : LE := le0 1 s162_0 (fun st => Zaa ((((sv st 2).I) - ((sv st 3).I)).toNat + 1) ((sv st 2).I) ((sv st 3).I) (bc st 0) (br st 1) (br st 2) (br st 3) (br st 4) (br st 5) (br st 6)) a162_0
noncomputable def L162 : Loops := ⟨fun k => (Zr [(1, [0, 8, 9, 10])] k).getD [], fun _ => [], fun k => (Zr [(1, [])] k).getD [], runL [l162_0], [], fun _ => []⟩
theorem t162_0 (k_ : Nat) : ∀ (v9 : Int) (v10 : Int) (b0 : V) (r1 : List V) (r2 : List V) (r3 : List V) (r4 : List V) (r5 : List V) (r6 : List V), Agr id (pk0 a162_0) (Zaa k_ v9 v10 b0 r1 r2 r3 r4 r5 r6) (Zac c162 L162 (lpB Tryz.f162 0) k_ (s162_0.mk' (stv [.dead, .dead, vi v9, vi v10] [bx b0, rb r1, rb r2, rb r3, rb r4, rb r5, rb r6]))) := by
  induction k_ with
  | zero => exact fun _ _ _ _ _ _ _ _ _ => g0
  | succ k_ ih => exact fun _ _ _ _ _ _ _ _ _ => gA (g1 (g1 (g2 fun _ => ih _ _ _ _ _ _ _ _ _) g0) g4) (by kernel_rfl)
theorem o162 : ZT c162 L162 (Z7 Tryz.f162) := GoodAll.ok (l := [l162_0]) (.cons 0 (by kernel_rfl) (gd0 (fun st => (((sv st 2).I) - ((sv st 3).I)).toNat + 1) (fun st => t162_0 _ _ _ _ _ _ _ _ _ _) fun st => by kernel_rfl) (.nil)) rfl
noncomputable def e162 : En Tryz.prog tab := enP base [e78, e163] false [] Tryz.func162 (L := L162) o162 [(.rf Zx q43)] (fun a => ZaZ ((rd a 0).unbox)) (fun r_ : V => ((V.tup []), [(V.rf Zx (l44 r_))])) [] [q45] [none] false (by kernel_rfl) fun _ => gA (g2 fun _ => g2 fun _ => g4) (by kernel_rfl)
noncomputable def c117 : Cfg := ZaA (P := Tryz.prog) (tab := tab) [e159, e160, e161, e162] false []
def a117_0 (r_ : Int × V × List V × List V × List V × List V × List V) : List (Ex × St) := [((Ex.exit 0), (⟨[(0, (V.bp 0 0)), (2, (vi r_.1))], [(0, some (Blk.box Zx (l46 r_.2.1))), (1, some (Blk.row Zb true r_.2.2.1)), (2, some (Blk.row Zi true r_.2.2.2.1)), (3, some (Blk.row Ze true r_.2.2.2.2.1)), (4, some (Blk.row Ze true r_.2.2.2.2.2.1)), (5, some (Blk.row Zk true r_.2.2.2.2.2.2))], 6, [0]⟩ : St))]
def s117_0 : SS := ⟨[(0, (.one (.bp 0 0))), (2, (.one (.int .i64))), (10, (.one (.sl 1 Zi))), (11, (.one (.int .i64))), (12, (.one (.int .i64)))], [(.box Zx q52), (.row Zi true), (.row Zb true), (.row Ze true), (.row Ze true), (.row Zk true)], 6, [0]⟩
noncomputable def l117_0 : LE := le0 2 s117_0 (fun st => Zai ((((sv st 3).I) - ((sv st 4).I)).toNat + 1) ((sv st 1).I) ((sv st 3).I) ((sv st 4).I) (bc st 0) (br st 1) (br st 2) (br st 3) (br st 4) (br st 5)) a117_0
def a117_1 (r_ : V × List V × List V × List V × List V × List V) : List (Ex × St) := [((Ex.exit 2), (⟨[(0, (V.bp 0 0))], [(0, some (Blk.box Zx (l46 r_.1))), (1, some (Blk.row Zb true r_.2.1)), (2, some (Blk.row Zi true r_.2.2.1)), (3, some (Blk.row Ze true r_.2.2.2.1)), (4, some (Blk.row Ze true r_.2.2.2.2.1)), (5, some (Blk.row Zk true r_.2.2.2.2.2))], 6, [0]⟩ : St))]
def s117_1 : SS := ⟨[(0, (.one (.bp 0 0))), (49, (.one (.int .i64))), (50, (.one (.int .i64)))], [(.box Zx q48), (.row Zb true), (.row Zi true), (.row Ze true), (.row Ze true), (.row Zk true)], 6, [0]⟩
noncomputable def l117_1 : LE := le0 10 s117_1 (fun st => Zao ((((sv st 1).I) - ((sv st 2).I)).toNat + 1) ((sv st 1).I) ((sv st 2).I) (bc st 0) (br st 1) (br st 2) (br st 3) (br st 4) (br st 5)) a117_1
noncomputable def L117 : Loops := ⟨fun k => (Zr [(2, [0, 2, 10, 11, 12]), (10, [0, 49, 50])] k).getD [], fun _ => [], fun k => (Zr [(2, [0, 2]), (10, [0])] k).getD [], runL [l117_0, l117_1], [], fun _ => []⟩
theorem t117_0 (k_ : Nat) : ∀ (count2 : Int) (v11 : Int) (v12 : Int) (b0 : V) (r1 : List V) (r2 : List V) (r3 : List V) (r4 : List V) (r5 : List V), Agr id (pk0 a117_0) (Zai k_ count2 v11 v12 b0 r1 r2 r3 r4 r5) (Zac c117 L117 (lpB Tryz.f117 0) k_ (s117_0.mk' (stv [.dead, vi count2, .dead, vi v11, vi v12] [bx b0, rb r1, rb r2, rb r3, rb r4, rb r5]))) := by
  induction k_ with
  | zero => exact fun _ _ _ _ _ _ _ _ _ => g0
  | succ k_ ih => exact fun _ _ _ _ _ _ _ _ _ => gA (g1 (g1 (g1 (ih _ _ _ _ _ _ _ _ _) (ih _ _ _ _ _ _ _ _ _)) g0) g4) (by kernel_rfl)
theorem t117_1 (k_ : Nat) : ∀ (v49 : Int) (v50 : Int) (b0 : V) (r1 : List V) (r2 : List V) (r3 : List V) (r4 : List V) (r5 : List V), Agr id (pk0 a117_1) (Zao k_ v49 v50 b0 r1 r2 r3 r4 r5) (Zac c117 L117 (lpB Tryz.f117 1) k_ (s117_1.mk' (stv [.dead, vi v49, vi v50] [bx b0, rb r1, rb r2, rb r3, rb r4, rb r5]))) := by
  induction k_ with
  | zero => exact fun _ _ _ _ _ _ _ _ => g0
  | succ k_ ih => exact fun _ _ _ _ _ _ _ _ => gA (g1 (g1 (g1 (ih _ _ _ _ _ _ _ _) g0) g0) g4) (by kernel_rfl)
theorem o117 : ZT c117 L117 (Z7 Tryz.f117) := GoodAll.ok (l := [l117_0, l117_1]) (.cons 0 (by kernel_rfl) (gd0 (fun st => (((sv st 3).I) - ((sv st 4).I)).toNat + 1) (fun st => t117_0 _ _ _ _ _ _ _ _ _ _) fun st => by kernel_rfl) (.cons 1 (by kernel_rfl) (gd0 (fun st => (((sv st 1).I) - ((sv st 2).I)).toNat + 1) (fun st => t117_1 _ _ _ _ _ _ _ _ _) fun st => by kernel_rfl) (.nil))) rfl
set_option maxRecDepth 100000 in
noncomputable def e117 : En Tryz.prog tab := enP base [e159, e160, e161, e162] false [] Tryz.func117 (L := L117) o117 [(.rf Zx q43)] (fun a => Zcl ((rd a 0).unbox)) (fun r_ : V => ((V.tup []), [(V.rf Zx (l44 r_))])) [] [q45] [none] false (by kernel_rfl) fun _ => gA (g2 fun _ => g1 g4 (g2 fun _ => g1 (g1 (g2 fun _ => g2 fun _ => g4) g0) (g2 fun _ => g2 fun _ => g4))) (by kernel_rfl)
end Go.Eng.R
open Go Go.Eng Go.Proofs
namespace Go.Eng.R
noncomputable def c118 : Cfg := ZaA (P := Tryz.prog) (tab := tab) [e116, e62, e158] false []
def a118_0 (r_ : Nat × Int × Bool × V × V × List V × List V × List V × List V × List V) : List (Ex × St) := [(Ex.ret, (⟨[(0, (V.bp 0 0)), (3, (V.bp 1 0)), (4, (vi r_.2.1)), (5, (V.bool r_.2.2.1))], [(0, some (Blk.box Zx (l53 r_.2.2.2.1))), (1, some (Blk.box Zk (l39 r_.2.2.2.2.1))), (2, some (Blk.row Zb true r_.2.2.2.2.2.1)), (3, some (Blk.row Zi true r_.2.2.2.2.2.2.1)), (4, some (Blk.row Ze true r_.2.2.2.2.2.2.2.1)), (5, some (Blk.row Ze true r_.2.2.2.2.2.2.2.2.1)), (6, some (Blk.row Zk true r_.2.2.2.2.2.2.2.2.2))], 7, [0]⟩ : St)), ((Ex.exit 0), (⟨[(0, (V.bp 0 0)), (3, (V.bp 1 0)), (4, V.dead), (5, V.dead)], [(0, some (Blk.box Zx (l53 r_.2.2.2.1))), (1, some (Blk.box Zk (l39 r_.2.2.2.2.1))), (2, some (Blk.row Zb true r_.2.2.2.2.2.1)), (3, some (Blk.row Zi true r_.2.2.2.2.2.2.1)), (4, some (Blk.row Ze true r_.2.2.2.2.2.2.2.1)), (5, some (Blk.row Ze true r_.2.2.2.2.2.2.2.2.1)), (6, some (Blk.row Zk true r_.2.2.2.2.2.2.2.2.2))], 7, [0]⟩ : St))]
def s118_0 : SS := ⟨[(0, (.one (.bp 0 0))), (3, (.one (.bp 1 0))), (71, (.one (.inl Zb))), (72, (.one (.int .i64))), (73, (.one (.int .i64)))], [(.box Zx q51), (.box Zk q40), (.row Zb true), (.row Zi true), (.row Ze true), (.row Ze true), (.row Zk true)], 7, [0]⟩
noncomputable def l118_0 : LE := le1 10 s118_0 (fun st => Zaj ((((sv st 3).I) - ((sv st 4).I)).toNat + 1) ((sv st 2).L) ((sv st 3).I) ((sv st 4).I) (bc st 0) (bc st 1) (br st 2) (br st 3) (br st 4) (br st 5) (br st 6)) a118_0
def a118_1 (r_ : Int × V × V × List V × List V × List V × List V × List V) : List (Ex × St) := [((Ex.exit 2), (⟨[(0, (V.bp 0 0)), (3, (V.bp 1 0)), (9, (vi r_.1))], [(0, some (Blk.box Zx (l53 r_.2.1))), (1, some (Blk.box Zk (l39 r_.2.2.1))), (2, some (Blk.row Zb true r_.2.2.2.1)), (3, some (Blk.row Zi true r_.2.2.2.2.1)), (4, some (Blk.row Ze true r_.2.2.2.2.2.1)), (5, some (Blk.row Ze true r_.2.2.2.2.2.2.1)), (6, some (Blk.row Zk true r_.2.2.2.2.2.2.2))], 7, [0]⟩ : St))]
def s118_1 : SS := ⟨[(0, (.one (.bp 0 0))), (3, (.one (.bp 1 0))), (9, (.one (.int .i64))), (110, (.one (.inl Zb))), (111, (.one (.int .i64))), (112, (.one (.int .i64)))], [(.box Zx q51), (.box Zk q40), (.row Zb true), (.row Zi true), (.row Ze true), (.row Ze true), (.row Zk true)], 7, [0]⟩
noncomputable def l118_1 : LE := le0 18 s118_1 (fun st => ZJ ((((sv st 4).I) - ((sv st 5).I)).toNat + 1) ((sv st 2).I) ((sv st 3).L) ((sv st 4).I) ((sv st 5).I) (bc st 0) (bc st 1) (br st 2) (br st 3) (br st 4) (br st 5) (br st 6)) a118_1
noncomputable def L118 : Loops := ⟨fun k => (Zr [(10, [0, 3, 71, 72, 73]), (18, [0, 3, 9, 110, 111, 112])] k).getD [], fun k => (Zr [(18, [⟨0, some 3, true⟩])] k).getD [], fun k => (Zr [(10, [0, 3, 4, 5]), (18, [0, 3, 9])] k).getD [], runL [l118_0, l118_1], [], fun _ => []⟩
theorem t118_0 (k_ : Nat) : ∀ (v71 : List V) (v72 : Int) (v73 : Int) (b0 : V) (b1 : V) (r2 : List V) (r3 : List V) (r4 : List V) (r5 : List V) (r6 : List V), Agr id (pk1 a118_0) (Zaj k_ v71 v72 v73 b0 b1 r2 r3 r4 r5 r6) (Zac c118 L118 (lpB Tryz.f118 0) k_ (s118_0.mk' (stv [.dead, .dead, V.inl 0 v71, vi v72, vi v73] [bx b0, bx b1, rb r2, rb r3, rb r4, rb r5, rb r6]))) := by
  induction k_ with
  | zero => exact fun _ _ _ _ _ _ _ _ _ _ => g0
  | succ k_ ih => exact fun _ _ _ _ _ _ _ _ _ _ => gA (g1 (g1 (g1 (g2 fun _ => g1 g4 (ih _ _ _ _ _ _ _ _ _ _)) (ih _ _ _ _ _ _ _ _ _ _)) g0) g4) (by kernel_rfl)
set_option maxRecDepth 100000 in
theorem t118_1 (k_ : Nat) : ∀ (last9 : Int) (v110 : List V) (v111 : Int) (v112 : Int) (b0 : V) (b1 : V) (r2 : List V) (r3 : List V) (r4 : List V) (r5 : List V) (r6 : List V), Agr id (pk0 a118_1) (ZJ k_ last9 v110 v111 v112 b0 b1 r2 r3 r4 r5 r6) (Zac c118 L118 (lpB Tryz.f118 1) k_ (s118_1.mk' (stv [.dead, .dead, vi last9, V.inl 0 v110, vi v111, vi v112] [bx b0, bx b1, rb r2, rb r3, rb r4, rb r5, rb r6]))) := by
  induction k_ with
  | zero => exact fun _ _ _ _ _ _ _ _ _ _ _ => g0
  | succ k_ ih => exact fun _ _ _ _ _ _ _ _ _ _ _ => gA (g1 (g1 (g1 (g2 fun _ => g1 (g1 (g1 (g2 fun _ => g1 (ih _ _ _ _ _ _ _ _ _ _ _) g0) (ih _ _ _ _ _ _ _ _ _ _ _)) g0) (g1 (g2 fun _ => g1 (ih _ _ _ _ _ _ _ _ _ _ _) g0) (ih _ _ _ _ _ _ _ _ _ _ _))) (g1 (g2 fun _ => g1 (ih _ _ _ _ _ _ _ _ _ _ _) g0) (ih _ _ _ _ _ _ _ _ _ _ _))) g0) g4) (by kernel_rfl)
theorem o118 : ZT c118 L118 (Z7 Tryz.f118) := GoodAll.ok (l := [l118_0, l118_1]) (.cons 0 (by kernel_rfl) (gd1 (fun st => (((sv st 3).I) - ((sv st 4).I)).toNat + 1) (fun st => t118_0 _ _ _ _ _ _ _ _ _ _ _) fun st => by kernel_rfl) (.cons 1 (by kernel_rfl) (gd0 (fun st => (((sv st 4).I) - ((sv st 5).I)).toNat + 1) (fun st => t118_1 _ _ _ _ _ _ _ _ _ _ _ _) fun st => by kernel_rfl) (.nil))) rfl
set_option maxRecDepth 100000 in
noncomputable def e118 : En Tryz.prog tab := enP base [e116, e62, e158] false [] Tryz.func118 (L := L118) o118 [(.rf Zx q43), (.agg q40)] (fun a => ZcD ((rd a 0).unbox) (rd a 1)) (fun r_ : Int × Bool × V => ((V.tup [(vi r_.1), (V.bool r_.2.1)]), [(V.rf Zx (l44 r_.2.2))])) [] [q45] [none, none] false (by kernel_rfl) fun _ => gA (g1 g4 (g1 g4 (g1 g4 (g2 fun _ => g1 g4 (g2 fun _ => g1 g4 (g2 fun _ => g4)))))) (by kernel_rfl)
set_option maxRecDepth 100000 in
noncomputable def e119 : En Tryz.prog tab := enP base [e163, e161, e162] false [] Tryz.func119 Zan [(.rf Zx q43), (.agg q40)] (fun a => ZcE ((rd a 0).unbox) (rd a 1)) (fun r_ : V => ((V.tup []), [(V.rf Zx (l44 r_))])) [] [q45] [none, none] false (by kernel_rfl) fun _ => gA (g1 g4 (g1 g4 (g1 (g1 (g1 (g1 (g1 (g2 fun _ => g4) g0) g4) g0) g0) (g1 g4 (g1 (g1 g4 (g1 (g1 (g2 fun _ => g1 (g2 fun _ => g4) (g1 (g1 (g2 fun _ => g4) g4) g0)) g0) g0)) g0))))) (by kernel_rfl)
set_option maxRecDepth 100000 in
noncomputable def e75 : En Tryz.prog tab := enP base [e116, e61, e117, e118, e119] false [] Tryz.func75 Zan [(.rf Zx q43), (.agg q40)] (fun a => Zae ((rd a 0).unbox) (rd a 1)) (fun r_ : V => ((V.tup []), [(V.rf Zx (l44 r_))])) [] [q45] [none, none] false (by kernel_rfl) fun _ => gA (g1 (g1 (g1 (g1 (g1 (g2 fun _ => g1 (g1 g4 g0) (g1 g4 g0)) (g1 (g2 fun _ => g1 (g1 g4 g0) (g1 g4 g0)) (g1 g4 g0))) (g1 g4 g0)) (g1 g4 g0)) (g1 (g1 (g1 (g1 (g1 (g2 fun _ => g4) g0) g4) g4) g4) (g1 (g2 fun _ => g1 g4 g0) (g2 fun _ => g4)))) (g1 (g1 (g1 (g1 (g2 fun _ => g1 (g1 g4 g0) (g1 g4 g0)) (g1 (g2 fun _ => g1 (g1 g4 g0) (g1 g4 g0)) (g1 g4 g0))) (g1 g4 g0)) (g1 g4 g0)) (g1 (g1 (g1 (g1 (g1 (g2 fun _ => g4) g0) g4) g4) g4) (g1 (g2 fun _ => g1 g4 g0) (g2 fun _ => g4))))) (by kernel_rfl)
set_option maxRecDepth 100000 in
noncomputable def e30 : En Tryz.prog tab := enP base [e60, e34, e74, e75] false [] Tryz.func30 Zan [(.agg q4), (.one (.int .i64)), (.agg q40)] (fun a => ZdM (rd a 0) ((rd a 1).I) (rd a 2)) (fun r_ : V × List V => ((V.tup [(h1 r_.1), (V.rr Zk true r_.2)]), [])) [q2, [(.rr Zk true)]] [] [none, none, none] false (by kernel_rfl) fun _ => gA (g2 fun _ => g1 g4 (g2 fun _ => g1 g4 (g1 g4 (g1 g4 (g2 fun _ => g2 fun _ => g4))))) (by kernel_rfl)
noncomputable def e56 : En Tryz.prog tab := enT base [] false [] Tryz.func56 Zan [(.one (.int .i64))] (fun a => Zdm ((rd a 0).I)) (fun r_ : Bool => ((V.bool r_), [])) [] [] [none] false (by kernel_rfl) fun _ => gT (g5 g7 g7) (by kernel_rfl)
noncomputable def e57 : En Tryz.prog tab := enT base [] false [] Tryz.func57 Zan [(.one (.int .i64))] (fun a => Zec ((rd a 0).I)) (fun r_ : Bool => ((V.bool r_), [])) [] [] [none] false (by kernel_rfl) fun _ => gT (g5 g7 g7) (by kernel_rfl)
noncomputable def e58 : En Tryz.prog tab := enT base [] false [] Tryz.func58 Zan [(.one (.int .i64)), (.one (.int .i64))] (fun a => ZdX ((rd a 0).I) ((rd a 1).I)) (fun r_ : Bool => ((V.bool r_), [])) [] [] [none, none] false (by kernel_rfl) fun _ => gT (g5 g7 g7) (by kernel_rfl)
noncomputable def e182 : En Tryz.prog tab := enT base [] false [] Tryz.func182 Zan [(.one (.inl Zf))] (fun a => spec_l2val ((rd a 0).L)) (fun r_ : Bool => ((V.bool r_), [])) [] [] [some Zf] false (by kernel_rfl) fun _ => gT g7 (by kernel_rfl)
noncomputable def e183 : En Tryz.prog tab := enT base [] false [] Tryz.func183 Zan [(.one (.int .i64))] (fun a => spec_l2index ((rd a 0).I)) (fun r_ : Bool => ((V.bool r_), [])) [] [] [none] false (by kernel_rfl) fun _ => gT (g5 g7 g7) (by kernel_rfl)
noncomputable def c184 : Cfg := ZaA (P := Tryz.prog) (tab := tab) [] false []
def a184_0 (r_ : Nat × Bool) : List (Ex × St) := [(Ex.ret, (⟨[(2, (V.bool r_.2))], [], 0, []⟩ : St)), ((Ex.exit 0), (⟨[(2, V.dead)], [], 0, []⟩ : St))]
def s184_0 : SS := ⟨[(0, (.one (.inl Zf))), (3, (.one (.int .i64)))], [], 0, []⟩
noncomputable def l184_0 : LE := le1 4 s184_0 (fun st => Zbj ((((((sv st 0).L).length : Nat) : Int) - ((sv st 1).I)).toNat + 1) ((sv st 0).L) ((sv st 1).I)) a184_0
noncomputable def L184 : Loops := ⟨fun k => (Zr [(4, [0, 3])] k).getD [], fun _ => [], fun k => (Zr [(4, [2])] k).getD [], runL [l184_0], [], fun _ => []⟩
set_option maxRecDepth 100000 in
theorem t184_0 (k_ : Nat) : ∀ (b0 : List V) (i3 : Int), Agr id (pk1 a184_0) (Zbj k_ b0 i3) (Zac c184 L184 (lpB Tryz.f184 0) k_ (s184_0.mk' (stv [V.inl 0 b0, vi i3] []))) := by
  induction k_ with
  | zero => exact fun _ _ => g0
  | succ k_ ih => exact fun _ _ => gA (g1 (g1 (g1 (g1 (g1 g4 (ih _ _)) g0) (g1 (g1 (g1 (g1 g4 (ih _ _)) g0) (ih _ _)) g0)) g0) g4) (by kernel_rfl)
theorem o184 : ZT c184 L184 (Z7 Tryz.f184) := GoodAll.ok (l := [l184_0]) (.cons 0 (by kernel_rfl) (gd1 (fun st => (((((sv st 0).L).length : Nat) : Int) - ((sv st 1).I)).toNat + 1) (fun st => t184_0 _ _ _) fun st => by kernel_rfl) (.nil)) rfl
noncomputable def e184 : En Tryz.prog tab := enP base [] false [] Tryz.func184 (L := L184) o184 [(.one (.inl Zf))] (fun a => ZcF ((rd a 0).L)) (fun r_ : Bool => ((V.bool r_), [])) [] [] [some Zf] false (by kernel_rfl) fun _ => gA (g1 g4 (g1 g4 (g2 fun _ => g1 g4 g4))) (by kernel_rfl)
set_option maxRecDepth 100000 in
noncomputable def e151 : En Tryz.prog tab := enP base [e182, e183, e184] false [] Tryz.func151 Zan [(.agg q35)] (fun a => spec_OpOk (rd a 0)) (fun r_ : Bool => ((V.bool r_), [])) [] [] [none] false (by kernel_rfl) fun _ => gA (g1 g4 (g1 g4 (g1 g4 (g1 g4 (g1 (g2 fun _ => g1 g4 (g1 (g1 g4 (g1 g4 (g1 g4 (g1 g4 (g1 g4 g4))))) (g1 (g1 g4 (g1 g4 (g1 g4 (g1 g4 (g1 g4 g4))))) (g1 (g1 g4 (g1 g4 (g1 g4 (g1 g4 (g1 g4 (g1 g4 g4)))))) (g1 g4 (g1 g4 (g1 g4 (g1 g4 (g1 g4 g4))))))))) (g1 (g2 fun _ => g1 g4 (g1 (g1 g4 (g1 g4 (g1 g4 (g1 g4 (g1 g4 g4))))) (g1 (g1 g4 (g1 g4 (g1 g4 (g1 g4 (g1 g4 g4))))) (g1 (g1 g4 (g1 g4 (g1 g4 (g1 g4 (g1 g4 (g1 g4 g4)))))) (g1 g4 (g1 g4 (g1 g4 (g1 g4 (g1 g4 g4))))))))) (g1 (g2 fun _ => g1 g4 (g1 (g1 g4 (g1 g4 (g1 g4 (g1 g4 (g1 g4 g4))))) (g1 (g1 g4 (g1 g4 (g1 g4 (g1 g4 (g1 g4 g4))))) (g1 (g1 g4 (g1 g4 (g1 g4 (g1 g4 (g1 g4 (g1 g4 g4)))))) (g1 g4 (g1 g4 (g1 g4 (g1 g4 (g1 g4 g4))))))))) (g1 (g2 fun _ => g1 g4 (g1 (g1 g4 (g1 g4 (g1 g4 (g1 g4 (g1 g4 g4))))) (g1 (g1 g4 (g1 g4 (g1 g4 (g1 g4 (g1 g4 g4))))) (g1 (g1 g4 (g1 g4 (g1 g4 (g1 g4 (g1 g4 (g1 g4 g4)))))) (g1 g4 (g1 g4 (g1 g4 (g1 g4 (g1 g4 g4))))))))) (g1 (g2 fun _ => g1 g4 (g1 (g1 g4 (g1 (g1 g4 (g1 g4 (g1 g4 (g1 g4 (g1 g4 g4))))) (g1 (g1 g4 (g1 g4 (g1 g4 (g1 g4 (g1 g4 g4))))) (g1 (g1 g4 (g1 g4 (g1 g4 (g1 g4 (g1 g4 (g1 g4 g4)))))) (g1 g4 (g1 g4 (g1 g4 (g1 g4 (g1 g4 g4))))))))) (g1 (g1 g4 (g1 g4 (g1 g4 (g1 g4 (g1 g4 g4))))) (g1 (g1 g4 (g1 g4 (g1 g4 (g1 g4 (g1 g4 g4))))) (g1 (g1 g4 (g1 g4 (g1 g4 (g1 g4 (g1 g4 (g1 g4 g4)))))) (g1 g4 (g1 g4 (g1 g4 (g1 g4 (g1 g4 g4)))))))))) (g1 (g1 g4 (g1 (g1 g4 (g1 g4 (g1 g4 (g1 g4 (g1 g4 g4))))) (g1 (g1 g4 (g1 g4 (g1 g4 (g1 g4 (g1 g4 g4))))) (g1 (g1 g4 (g1 g4 (g1 g4 (g1 g4 (g1 g4 (g1 g4 g4)))))) (g1 g4 (g1 g4 (g1 g4 (g1 g4 (g1 g4 g4))))))))) (g1 (g1 g4 (g1 g4 (g1 g4 (g1 g4 (g1 g4 g4))))) (g1 (g1 g4 (g1 g4 (g1 g4 (g1 g4 (g1 g4 g4))))) (g1 (g1 g4 (g1 g4 (g1 g4 (g1 g4 (g1 g4 (g1 g4 g4)))))) (g1 g4 (g1 g4 (g1 g4 (g1 g4 (g1 g4 g4)))))))))))))))))) (by kernel_rfl)
set_option maxRecDepth 100000 in
noncomputable def e105 : En Tryz.prog tab := enP base [e151] false [] Tryz.func105 Zan [(.agg q36)] (fun a => spec_CmdOk (rd a 0)) (fun r_ : Bool => ((V.bool r_), [])) [] [] [none] false (by kernel_rfl) fun _ => gA (g1 (g1 (g1 (g2 fun _ => g4) g4) g4) (g1 (g1 (g1 (g1 (g2 fun _ => g4) g4) g4) g4) g4)) (by kernel_rfl)
noncomputable def e59 : En Tryz.prog tab := enP base [e105] false [] Tryz.func59 Zan [(.agg q37)] (fun a => Zds (rd a 0)) (fun r_ : Bool => ((V.bool r_), [])) [] [] [none] false (by kernel_rfl) fun _ => gA (g1 (g1 (g2 fun _ => g4) g4) g4) (by kernel_rfl)
noncomputable def c16 : Cfg := ZaA (P := Tryz.prog) (tab := tab) [e56, e57, e58, e59] false []
def a16_0 (r_ : Nat × Int × Bool × V) : List (Ex × St) := [(Ex.ret, (⟨[(1, (vi r_.2.1)), (2, (V.bp 0 0)), (4, (V.bool r_.2.2.1))], [(0, some (Blk.box ZF (l38 r_.2.2.2)))], 1, []⟩ : St)), ((Ex.exit 0), (⟨[(1, (vi r_.2.1)), (2, (V.bp 0 0)), (4, V.dead)], [(0, some (Blk.box ZF (l38 r_.2.2.2)))], 1, []⟩ : St))]
def s16_0 : SS := ⟨[(1, (.one (.int .i64))), (2, (.one (.bp 0 0))), (5, (.one (.int .i64)))], [(.box ZF q4)], 1, []⟩
noncomputable def l16_0 : LE := le1 4 s16_0 (fun st => ZaQ (((((gl (bc st 0) 3).length : Nat) : Int) - ((sv st 2).I)).toNat + 1) ((sv st 0).I) ((sv st 2).I) (bc st 0)) a16_0
def a16_1 (r_ : Nat × Bool × V) : List (Ex × St) := [(Ex.ret, (⟨[(2, (V.bp 0 0)), (4, (V.bool r_.2.1))], [(0, some (Blk.box ZF (l38 r_.2.2)))], 1, []⟩ : St)), ((Ex.exit 2), (⟨[(2, (V.bp 0 0)), (4, V.dead)], [(0, some (Blk.box ZF (l38 r_.2.2)))], 1, []⟩ : St))]
def s16_1 : SS := ⟨[(1, (.one (.int .i64))), (2, (.one (.bp 0 0))), (6, (.one (.int .i64)))], [(.box ZF q4)], 1, []⟩
noncomputable def l16_1 : LE := le1 11 s16_1 (fun st => ZS ((((sv st 0).I) - ((sv st 2).I)).toNat + 1) ((sv st 0).I) ((sv st 2).I) (bc st 0)) a16_1
noncomputable def L16 : Loops := ⟨fun k => (Zr [(4, [1, 2, 5]), (11, [1, 2, 6])] k).getD [], fun _ => [], fun k => (Zr [(4, [1, 2, 4]), (11, [2, 4])] k).getD [], runL [l16_0, l16_1], [], fun _ => []⟩
set_option maxRecDepth 100000 in
theorem t16_0 (k_ : Nat) : ∀ (servers1 : Int) (i5 : Int) (b0 : V), Agr id (pk1 a16_0) (ZaQ k_ servers1 i5 b0) (Zac c16 L16 (lpB Tryz.f16 0) k_ (s16_0.mk' (stv [vi servers1, .dead, vi i5] [bx b0]))) := by
  induction k_ with
  | zero => exact fun _ _ _ => g0
  | succ k_ ih => exact fun _ _ _ => gA (g1 (g1 (g2 fun _ => g1 g4 (g1 (g1 g4 (g1 (g1 (g1 (g1 g4 (ih _ _ _)) g0) g0) (ih _ _ _))) g0)) g0) g4) (by kernel_rfl)
set_option maxRecDepth 100000 in
theorem t16_1 (k_ : Nat) : ∀ (servers1 : Int) (i6 : Int) (b0 : V), Agr id (pk1 a16_1) (ZS k_ servers1 i6 b0) (Zac c16 L16 (lpB Tryz.f16 1) k_ (s16_1.mk' (stv [vi servers1, .dead, vi i6] [bx b0]))) := by
  induction k_ with
  | zero => exact fun _ _ _ => g0
  | succ k_ ih => exact fun _ _ _ => gA (g1 (g1 (g1 (g1 g4 (g1 (g1 g4 (g1 (g1 g4 (g1 (g1 g4 (g1 (g1 (g1 g4 (g1 (g1 g4 (g1 (g1 (g1 g4 (ih _ _ _)) g0) (ih _ _ _))) g0)) g0) (g1 (g1 (g1 g4 (ih _ _ _)) g0) (ih _ _ _)))) g0)) g0)) g0)) g0) (g1 (g1 (g1 g4 (g1 (g1 g4 (g1 (g1 (g1 g4 (ih _ _ _)) g0) (ih _ _ _))) g0)) g0) (g1 (g1 (g1 g4 (ih _ _ _)) g0) (ih _ _ _)))) g4) (by kernel_rfl)
theorem o16 : ZT c16 L16 (Z7 Tryz.f16) := GoodAll.ok (l := [l16_0, l16_1]) (.cons 0 (by kernel_rfl) (gd1 (fun st => ((((gl (bc st 0) 3).length : Nat) : Int) - ((sv st 2).I)).toNat + 1) (fun st => t16_0 _ _ _ _) fun st => by kernel_rfl) (.cons 1 (by kernel_rfl) (gd1 (fun st => (((sv st 0).I) - ((sv st 2).I)).toNat + 1) (fun st => t16_1 _ _ _ _) fun st => by kernel_rfl) (.nil))) rfl
set_option maxRecDepth 100000 in
noncomputable def e16 : En Tryz.prog tab := enP base [e56, e57, e58, e59] false [] Tryz.func16 (L := L16) o16 [(.agg q4), (.one (.int .i64))] (fun a => Zed (rd a 0) ((rd a 1).I)) (fun r_ : Bool => ((V.bool r_), [])) [] [] [none, none] false (by kernel_rfl) fun _ => gA (g1 g4 (g1 g4 (g1 g4 (g1 g4 (g1 g4 (g1 g4 (g1 g4 (g1 g4 (g1 g4 (g1 g4 (g1 g4 (g1 g4 (g1 g4 (g1 g4 (g1 g4 (g1 g4 (g2 fun _ => g1 g4 (g1 (g1 g4 (g1 g4 (g2 fun _ => g1 g4 (g1 g4 g4)))) (g2 fun _ => g1 g4 (g1 g4 g4)))))))))))))))))))) (by kernel_rfl)
noncomputable def e76 : En Tryz.prog tab := enP base [e60] false [] Tryz.func76 Zan [(.agg q4), (.one (.int .i64))] (fun a => Zcv (rd a 0) ((rd a 1).I)) (fun r_ : Bool => ((V.bool r_), [])) [] [] [none, none] false (by kernel_rfl) fun _ => gA (g2 fun _ => g1 g4 g4) (by kernel_rfl)
noncomputable def e79 : En Tryz.prog tab := enP base [] false [] Tryz.func79 Zan [(.one (.int .i64)), (.ep q4 0)] (fun a => ZbZ ((rd a 0).I) ((rd a 1).unbox)) (fun r_ : Bool => ((V.bool r_), [])) [] [] [none] false (by kernel_rfl) fun _ => gA (g1 g4 g0) (by kernel_rfl)
noncomputable def c120 : Cfg := ZaA (P := Tryz.prog) (tab := tab) [e79] false []
def a120_0 (r_ : Nat × Int) : List (Ex × St) := [(Ex.ret, (⟨[(4, (vi r_.2))], [], 0, []⟩ : St)), ((Ex.exit 0), (⟨[(4, V.dead)], [], 0, []⟩ : St))]
def s120_0 : SS := ⟨[(0, (.one (.inl Ze))), (1, (.fn 79 [q4])), (7, (.one (.int .i64))), (8, (.one (.int .i64)))], [], 0, []⟩
noncomputable def l120_0 : LE := le1 2 s120_0 (fun st => Zah ((((sv st 2).I) - ((sv st 3).I)).toNat + 1) ((sv st 0).L) ((rd (sv st 1).caps 0).unbox) ((sv st 2).I) ((sv st 3).I)) a120_0
noncomputable def L120 : Loops := ⟨fun k => (Zr [(2, [0, 1, 7, 8])] k).getD [], fun _ => [], fun k => (Zr [(2, [4])] k).getD [], runL [l120_0], [], fun _ => []⟩
theorem t120_0 (k_ : Nat) : ∀ (s0 : List V) (f1_0 : V) (v7 : Int) (v8 : Int), Agr id (pk1 a120_0) (Zah k_ s0 f1_0 v7 v8) (Zac c120 L120 (lpB Tryz.f120 0) k_ (s120_0.mk' (stv [V.inl 0 s0, V.fn 0 [.ep (V.cells f1_0) 0], vi v7, vi v8] []))) := by
  induction k_ with
  | zero => exact fun _ _ _ _ => g0
  | succ k_ ih => exact fun _ _ _ _ => gA (g1 (g1 (g2 fun _ => g1 g4 (ih _ _ _ _)) g0) g4) (by kernel_rfl)
theorem o120 : ZT c120 L120 (Z7 Tryz.f120) := GoodAll.ok (l := [l120_0]) (.cons 0 (by kernel_rfl) (gd1 (fun st => (((sv st 2).I) - ((sv st 3).I)).toNat + 1) (fun st => t120_0 _ _ _ _ _) fun st => by kernel_rfl) (.nil)) rfl
noncomputable def e120 : En Tryz.prog tab := enP base [e79] false [] Tryz.func120 (L := L120) o120 [(.one (.inl Ze)), (.fn 79 [q4])] (fun a => Zbw ((rd a 0).L) ((rd (rd a 1).caps 0).unbox)) (fun r_ : Int => ((vi r_), [])) [] [] [some Ze, none] false (by kernel_rfl) fun _ => gA (g2 fun _ => g1 g4 g4) (by kernel_rfl)
noncomputable def c77 : Cfg := ZaA (P := Tryz.prog) (tab := tab) [e120, e79] false []
def a77_0 (r_ : Int × List V) : List (Ex × St) := [((Ex.exit 0), (⟨[(0, (vs 0 Ze)), (5, (vi r_.1))], [(0, some (Blk.row Ze true r_.2))], 1, [0]⟩ : St))]
def s77_0 : SS := ⟨[(0, (.one (.sl 0 Ze))), (1, (.fn 79 [q4])), (5, (.one (.int .i64))), (6, (.one (.int .i64)))], [(.row Ze true)], 1, [0]⟩
noncomputable def l77_0 : LE := le0 5 s77_0 (fun st => Zaq (((((br st 0).length : Nat) : Int) - ((sv st 3).I)).toNat + 1) ((rd (sv st 1).caps 0).unbox) ((sv st 2).I) ((sv st 3).I) (br st 0)) a77_0
noncomputable def L77 : Loops := ⟨fun k => (Zr [(5, [0, 1, 5, 6])] k).getD [], fun _ => [], fun k => (Zr [(5, [0, 5])] k).getD [], runL [l77_0], [4], fun _ => []⟩
theorem t77_0 (k_ : Nat) : ∀ (del1_0 : V) (i5 : Int) (j6 : Int) (r0 : List V), Agr id (pk0 a77_0) (Zaq k_ del1_0 i5 j6 r0) (Zac c77 L77 (lpB Tryz.f77 0) k_ (s77_0.mk' (stv [.dead, V.fn 0 [.ep (V.cells del1_0) 0], vi i5, vi j6] [rb r0]))) := by
  induction k_ with
  | zero => exact fun _ _ _ _ => g0
  | succ k_ ih => exact fun _ _ _ _ => gA (g1 (g1 (g2 fun _ => g1 (g1 (ih _ _ _ _) g0) (ih _ _ _ _)) g0) g4) (by kernel_rfl)
theorem o77 : ZT c77 L77 (Z7 Tryz.f77) := GoodAll.ok (l := [l77_0]) (.cons 0 (by kernel_rfl) (gd0 (fun st => ((((br st 0).length : Nat) : Int) - ((sv st 3).I)).toNat + 1) (fun st => t77_0 _ _ _ _ _) fun st => by kernel_rfl) (.nil)) rfl
noncomputable def e77 : En Tryz.prog tab := enP base [e120, e79] false [] Tryz.func77 (L := L77) o77 [(.one (.rr Ze true)), (.fn 79 [q4])] (fun a => ZbS ((rd a 0).L) ((rd (rd a 1).caps 0).unbox)) (fun r_ : List V => ((V.rr Ze true r_), [V.dead])) [[(.rr Ze true)]] [] [some Ze, none] true (by kernel_rfl) fun _ => gA (g2 fun _ => g1 g4 (g2 fun _ => g1 (g1 g4 g0) g0)) (by kernel_rfl)
noncomputable def e31 : En Tryz.prog tab := enP base [e76, e78, e77] false [] Tryz.func31 Zan [(.agg q4), (.one (.int .i64))] (fun a => Zbf (rd a 0) ((rd a 1).I)) (fun r_ : List V => ((V.rr Ze true r_), [])) [[(.rr Ze true)]] [] [none, none] false (by kernel_rfl) fun _ => gA (g2 fun _ => g1 g4 (g2 fun _ => g2 fun _ => g4)) (by kernel_rfl)
noncomputable def e12 : En Tryz.prog tab := enB Tryz.func12 (by kernel_rfl) alive12
noncomputable def c32 : Cfg := ZaA (P := Tryz.prog) (tab := tab) [e76, e80, e78] false []
def a32_0 (r_ : Int) : List (Ex × St) := [((Ex.exit 0), (⟨[(7, (vi r_))], [], 0, []⟩ : St))]
def s32_0 : SS := ⟨[(2, (.one (.int .i64))), (3, (.one (.bp 0 0))), (7, (.one (.int .i64))), (23, (.one (.sl 1 Ze))), (24, (.one (.int .i64))), (25, (.one (.int .i64)))], [(.box ZF q4), (.row Ze true)], 2, []⟩
noncomputable def l32_0 : LE := le0 5 s32_0 (fun st => Zas ((((sv st 4).I) - ((sv st 5).I)).toNat + 1) ((sv st 0).I) ((sv st 2).I) ((sv st 4).I) ((sv st 5).I) (bc st 0) (br st 1)) a32_0
noncomputable def L32 : Loops := ⟨fun k => (Zr [(5, [2, 3, 7, 23, 24, 25])] k).getD [], fun _ => [], fun k => (Zr [(5, [7])] k).getD [], runL [l32_0], [], fun _ => []⟩
theorem t32_0 (k_ : Nat) : ∀ (place2 : Int) (count7 : Int) (v24 : Int) (v25 : Int) (b0 : V) (r1 : List V), Agr id (pk0 a32_0) (Zas k_ place2 count7 v24 v25 b0 r1) (Zac c32 L32 (lpB Tryz.f32 0) k_ (s32_0.mk' (stv [vi place2, .dead, vi count7, .dead, vi v24, vi v25] [bx b0, rb r1]))) := by
  induction k_ with
  | zero => exact fun _ _ _ _ _ _ => g0
  | succ k_ ih => exact fun _ _ _ _ _ _ => gA (g1 (g1 (g1 (g1 (ih _ _ _ _ _ _) (ih _ _ _ _ _ _)) g0) g0) g4) (by kernel_rfl)
theorem o32 : ZT c32 L32 (Z7 Tryz.f32) := GoodAll.ok (l := [l32_0]) (.cons 0 (by kernel_rfl) (gd0 (fun st => (((sv st 4).I) - ((sv st 5).I)).toNat + 1) (fun st => t32_0 _ _ _ _ _ _ _) fun st => by kernel_rfl) (.nil)) rfl
noncomputable def e32 : En Tryz.prog tab := enP base [e76, e80, e78] false [] Tryz.func32 (L := L32) o32 [(.agg q4), (.one (.int .i64)), (.one (.int .i64))] (fun a => Zbg (rd a 0) ((rd a 1).I) ((rd a 2).I)) (fun r_ : Int => ((vi r_), [])) [] [] [none, none, none] false (by kernel_rfl) fun _ => gA (g2 fun _ => g1 g4 (g1 g4 (g2 fun _ => g2 fun _ => g4))) (by kernel_rfl)
noncomputable def e18 : En Tryz.prog tab := enP base [e60, e62] false [] Tryz.func18 Zan [(.agg q4), (.one (.int .i64)), (.one (.int .i64))] (fun a => Zdt (rd a 0) ((rd a 1).I) ((rd a 2).I)) (fun r_ : Int => ((vi r_), [])) [] [] [none, none, none] false (by kernel_rfl) fun _ => gA (g2 fun _ => g1 g4 (g2 fun _ => g4)) (by kernel_rfl)
noncomputable def c121 : Cfg := ZaA (P := Tryz.prog) (tab := tab) [] false []
def a121_0 (r_ : Nat × Int) : List (Ex × St) := [(Ex.ret, (⟨[(4, (vi r_.2))], [], 0, []⟩ : St)), ((Ex.exit 0), (⟨[(4, V.dead)], [], 0, []⟩ : St))]
def s121_0 : SS := ⟨[(0, (.one (.inl Ze))), (1, (.one (.int .i64))), (7, (.one (.int .i64))), (8, (.one (.int .i64)))], [], 0, []⟩
noncomputable def l121_0 : LE := le1 2 s121_0 (fun st => ZaK ((((sv st 2).I) - ((sv st 3).I)).toNat + 1) ((sv st 0).L) ((sv st 1).I) ((sv st 2).I) ((sv st 3).I)) a121_0
noncomputable def L121 : Loops := ⟨fun k => (Zr [(2, [0, 1, 7, 8])] k).getD [], fun _ => [], fun k => (Zr [(2, [4])] k).getD [], runL [l121_0], [], fun _ => []⟩
theorem t121_0 (k_ : Nat) : ∀ (s0 : List V) (v1 : Int) (v7 : Int) (v8 : Int), Agr id (pk1 a121_0) (ZaK k_ s0 v1 v7 v8) (Zac c121 L121 (lpB Tryz.f121 0) k_ (s121_0.mk' (stv [V.inl 0 s0, vi v1, vi v7, vi v8] []))) := by
  induction k_ with
  | zero => exact fun _ _ _ _ => g0
  | succ k_ ih => exact fun _ _ _ _ => gA (g1 (g1 (g1 g4 (ih _ _ _ _)) g0) g4) (by kernel_rfl)
theorem o121 : ZT c121 L121 (Z7 Tryz.f121) := GoodAll.ok (l := [l121_0]) (.cons 0 (by kernel_rfl) (gd1 (fun st => (((sv st 2).I) - ((sv st 3).I)).toNat + 1) (fun st => t121_0 _ _ _ _ _) fun st => by kernel_rfl) (.nil)) rfl
noncomputable def e121 : En Tryz.prog tab := enP base [] false [] Tryz.func121 (L := L121) o121 [(.one (.inl Ze)), (.one (.int .i64))] (fun a => ZdF ((rd a 0).L) ((rd a 1).I)) (fun r_ : Int => ((vi r_), [])) [] [] [some Ze, none] false (by kernel_rfl) fun _ => gA (g2 fun _ => g1 g4 g4) (by kernel_rfl)
noncomputable def e81 : En Tryz.prog tab := enP base [e121] false [] Tryz.func81 Zan [(.one (.inl Ze)), (.one (.int .i64))] (fun a => Zcp ((rd a 0).L) ((rd a 1).I)) (fun r_ : Bool => ((V.bool r_), [])) [] [] [some Ze, none] false (by kernel_rfl) fun _ => gA (g2 fun _ => g4) (by kernel_rfl)
noncomputable def e33 : En Tryz.prog tab := enP base [e76, e78, e81, e82] false [] Tryz.func33 Zan [(.agg q4), (.one (.int .i64)), (.one (.int .i64))] (fun a => Zee (rd a 0) ((rd a 1).I) ((rd a 2).I)) (fun r_ : V × Bool => ((V.tup [(h49 r_.1), (V.bool r_.2)]), [])) [q50] [] [none, none, none] false (by kernel_rfl) fun _ => gA (g2 fun _ => g1 g4 (g2 fun _ => g2 fun _ => g1 g4 (g2 fun _ => g4))) (by kernel_rfl)
noncomputable def c7 : Cfg := ZaA (P := Tryz.prog) (tab := tab) [e29, e30, e16, e31, e12, e32, e18, e33, e34] false []
def a7_0 (r_ : Nat × Bool × Int × V × List V × List V × List V × List V × List V) : List (Ex × St) := [(Ex.ret, (⟨[(2, (V.bool r_.2.1)), (4, (vi r_.2.2.1)), (6, (V.bp 0 0)), (8, (vs 1 Ze))], [(0, some (Blk.box ZF (l54 r_.2.2.2.1))), (1, some (Blk.row Ze true r_.2.2.2.2.1)), (2, some (Blk.row Zb true r_.2.2.2.2.2.1)), (3, some (Blk.row Zi true r_.2.2.2.2.2.2.1)), (4, some (Blk.row Ze true r_.2.2.2.2.2.2.2.1)), (5, some (Blk.row Ze true r_.2.2.2.2.2.2.2.2))], 6, []⟩ : St)), ((Ex.exit 0), (⟨[(2, V.dead), (4, (vi r_.2.2.1)), (6, (V.bp 0 0)), (8, (vs 1 Ze))], [(0, some (Blk.box ZF (l54 r_.2.2.2.1))), (1, some (Blk.row Ze true r_.2.2.2.2.1)), (2, some (Blk.row Zb true r_.2.2.2.2.2.1)), (3, some (Blk.row Zi true r_.2.2.2.2.2.2.1)), (4, some (Blk.row Ze true r_.2.2.2.2.2.2.2.1)), (5, some (Blk.row Ze true r_.2.2.2.2.2.2.2.2))], 6, []⟩ : St))]
def s7_0 : SS := ⟨[(4, (.one (.int .i64))), (6, (.one (.bp 0 0))), (8, (.one (.sl 1 Ze))), (9, (.one (.int .i64)))], [(.box ZF q55), (.row Ze true), (.row Zb true), (.row Zi true), (.row Ze true), (.row Ze true)], 6, []⟩
noncomputable def l7_0 : LE := le1 9 s7_0 (fun st => Zal (((((br st 1).length : Nat) : Int) - ((sv st 3).I)).toNat + 1) ((sv st 0).I) ((sv st 3).I) (bc st 0) (br st 1) (br st 2) (br st 3) (br st 4) (br st 5)) a7_0
noncomputable def L7 : Loops := ⟨fun k => (Zr [(9, [4, 6, 8, 9])] k).getD [], fun _ => [], fun k => (Zr [(9, [2, 4, 6, 8])] k).getD [], runL [l7_0], [], fun _ => []⟩
set_option maxRecDepth 100000 in
theorem t7_0 (k_ : Nat) : ∀ (k4 : Int) (i9 : Int) (b0 : V) (r1 : List V) (r2 : List V) (r3 : List V) (r4 : List V) (r5 : List V), Agr id (pk1 a7_0) (Zal k_ k4 i9 b0 r1 r2 r3 r4 r5) (Zac c7 L7 (lpB Tryz.f7 0) k_ (s7_0.mk' (stv [vi k4, .dead, .dead, vi i9] [bx b0, rb r1, rb r2, rb r3, rb r4, rb r5]))) := by
  induction k_ with
  | zero => exact fun _ _ _ _ _ _ _ _ => g0
  | succ k_ ih => exact fun _ _ _ _ _ _ _ _ => gA (g1 (g1 (g2 fun _ => g1 g4 (g2 fun _ => g1 g4 (g1 (g1 g4 (g1 (g1 (g1 g4 (ih _ _ _ _ _ _ _ _)) g0) g0)) g0))) g0) g4) (by kernel_rfl)
theorem o7 : ZT c7 L7 (Z7 Tryz.f7) := GoodAll.ok (l := [l7_0]) (.cons 0 (by kernel_rfl) (gd1 (fun st => ((((br st 1).length : Nat) : Int) - ((sv st 3).I)).toNat + 1) (fun st => t7_0 _ _ _ _ _ _ _ _ _) fun st => by kernel_rfl) (.nil)) rfl
set_option maxRecDepth 100000 in
noncomputable def e7 : En Tryz.prog tab := enP base [e29, e30, e16, e31, e12, e32, e18, e33, e34] false [] Tryz.func7 (L := L7) o7 [(.one (.inl Zf))] (fun a => Zcw ((rd a 0).L)) (fun r_ : Bool => ((V.bool r_), [])) [] [] [some Zf] false (by kernel_rfl) fun _ => gA (g2 fun _ => g2 fun _ => g2 fun _ => g1 (g2 fun _ => g1 g4 g4) (g1 (g2 fun _ => g1 g4 g4) (g1 (g2 fun _ => g1 g4 (g2 fun _ => g1 g4 (g2 fun _ => g2 fun _ => g1 g4 (g2 fun _ => g1 g4 g4)))) (g2 fun _ => g2 fun _ => g1 g4 (g2 fun _ => g1 g4 g4))))) (by kernel_rfl)
end Go.Eng.R
open Go Go.Eng
namespace Go.Eng.R
def Zb2 (x : V) : Prop := I64 (gi x 0) ∧ I64 (gi x 1) ∧ I64 (gi x 2) ∧ I64 (gi x 3) ∧ LW Zck (gl x 4) ∧ LW Zck (gl x 5) ∧ I64 (gi x 6)
def Zv (x : V) : Nat := zS z0 (gl x 4) + zS z0 (gl x 5)
def c_Item (x : V) : Nat := 1 + 1 + 1 + 1 + Zav c1 (gl x 4) + Zav c1 (gl x 5) + 1
theorem c_Item_cz (x : V) : c_Item x ≤ 5 * (1 + Zv x) := by
  have h0 : Zav c1 (gl x 4) ≤ 1 * zS z0 (gl x 4) := by rw [sumL_c1, zS_z0]; omega
  have h1 : Zav c1 (gl x 5) ≤ 1 * zS z0 (gl x 5) := by rw [sumL_c1, zS_z0]; omega
  simp only [c_Item, Zv]; omega
def Z3 (x : V) : Prop := I64 (gi x 0) ∧ I64 (gi x 1) ∧ I64 (gi x 2) ∧ LW Zb2 (gl x 3) ∧ I64 (gi x 4) ∧ I64 (gi x 5) ∧ I64 (gi x 6) ∧ I64 (gi x 7) ∧ LW W_bool (gl x 8) ∧ LW W_int (gl x 9) ∧ LW W_int (gl x 10)
def ZbT (x : V) : Prop := I64 (gi x 0) ∧ I64 (gi x 1) ∧ I64 (gi x 2) ∧ I64 (gi x 3) ∧ I64 (gi x 4) ∧ I64 (gi x 5) ∧ LW Zb2 (gl x 6) ∧ I64 (gi x 7) ∧ True
def z_Msg (x : V) : Nat := zS Zv (gl x 6)
def c_Msg (x : V) : Nat := 1 + 1 + 1 + 1 + 1 + 1 + Zav c_Item (gl x 6) + 1 + 1
def ct_Msg (x : V) : Nat := Zav c_Item (gl x 6)
def W_Op (x : V) : Prop := I64 (gi x 0) ∧ LW Zck (gl x 1) ∧ LW Zck (gl x 2) ∧ I64 (gi x 3)
def W_Cmd (x : V) : Prop := I64 (gi x 0) ∧ I64 (gi x 1) ∧ I64 (gi x 2) ∧ LW Zck (gl x 3) ∧ LW Zck (gl x 4) ∧ I64 (gi x 5)
end Go.Eng.R
open Go Go.Eng
namespace Go.Eng.R
def Ok {α : Type} (P : α → Prop) (o : Option α) : Prop := ∃ x, o = some x ∧ P x
theorem Ok.bind {α β : Type} {P : β → Prop} {Q : α → Prop} {o : Option α} {f : α → Option β} (h : Ok Q o) (g : ∀ x, Q x → Ok P (f x)) : Ok P (Option.bind o f) := by
  obtain ⟨x, rfl, hx⟩ := h
  exact g x hx
theorem Ok.ret {α : Type} {P : α → Prop} {x : α} (h : P x) : Ok P (some x) := ⟨x, rfl, h⟩
theorem Ok.chk {α : Type} {P : α → Prop} {b : Bool} {x : Option α} (h : b = true) (g : Ok P x) : Ok P (bif b then x else none) := by subst h; exact g
theorem Ok.ite {α : Type} {P : α → Prop} {b : Bool} {x y : Option α} (g1 : b = true → Ok P x) (g2 : b = false → Ok P y) : Ok P (bif b then x else y) := by
  cases b with
  | true => exact g1 rfl
  | false => exact g2 rfl
theorem Ok.iteT {α : Type} {P : α → Prop} {b : Bool} {x y : Option α} (h : b = true) (g : Ok P x) : Ok P (bif b then x else y) := by subst h; exact g
theorem Ok.iteF {α : Type} {P : α → Prop} {b : Bool} {x y : Option α} (h : b = false) (g : Ok P y) : Ok P (bif b then x else y) := by subst h; exact g
theorem Ok.mono {α : Type} {P Q : α → Prop} {o : Option α} (h : Ok P o) (g : ∀ x, P x → Q x) : Ok Q o := by
  obtain ⟨x, e, hx⟩ := h
  exact ⟨x, e, g x hx⟩
def Ok2 {α β : Type} (P : α → β → Prop) (o : Option (α × β)) : Prop := ∃ x y, o = some (x, y) ∧ P x y
theorem Ok.bind2 {α β γ : Type} {P : γ → Prop} {Q : α → β → Prop} {o : Option (α × β)} {f : α × β → Option γ} (h : Ok2 Q o) (g : ∀ x y, Q x y → Ok P (f (x, y))) : Ok P (Option.bind o f) := by
  obtain ⟨x, y, rfl, hx⟩ := h
  exact g x y hx
theorem Ok2.of {α β : Type} {Q : α → β → Prop} {o : Option (α × β)} (h : Ok (fun r => Q r.1 r.2) o) : Ok2 Q o := by
  obtain ⟨⟨x, y⟩, e, hx⟩ := h
  exact ⟨x, y, e, hx⟩
theorem Ok2.ok {α β : Type} {Q : α → β → Prop} {o : Option (α × β)} (h : Ok2 Q o) : Ok (fun r => Q r.1 r.2) o := by
  obtain ⟨x, y, e, hx⟩ := h
  exact ⟨(x, y), e, hx⟩
theorem wrI (n : Int) : I64 (IntKind.i64.wrap n) := by unfold I64; rw [IntKind.wrap_i64]; omega
theorem LW.snoc {W : V → Prop} {l : List V} {x : V} (h : LW W l) (hl : l.length < 9223372036854775807) (hx : W x) : LW W (l ++ [x]) := by
  refine ⟨by simp; omega, fun y hy => ?_⟩
  rcases List.mem_append.1 hy with hy | hy
  · exact h.2 y hy
  · simp at hy; subst hy; exact hx
theorem LW.set' {W : V → Prop} {l : List V} {x : V} (h : LW W l) (j : Nat) (hx : W x) : LW W (l.set j x) := by
  refine ⟨by simpa using h.1, fun y hy => ?_⟩
  rcases List.mem_or_eq_of_mem_set hy with hy | hy
  · exact h.2 y hy
  · subst hy; exact hx
theorem LW.rep {W : V → Prop} {n : Nat} {x : V} (hn : n ≤ 9223372036854775807) (hx : W x) : LW W (List.replicate n x) :=
  ⟨by simpa using hn, fun y hy => by rw [List.mem_replicate] at hy; rw [hy.2]; exact hx⟩
theorem Zcm {i : Int} {n : Nat} (h0 : 0 ≤ i) (h1 : i < (n : Int)) : Zq i n = true := by simp [Zq]; omega
theorem ZbU {n b : Nat} (h : n * b ≤ 140737488355328) (h1 : n ≤ 9223372036854775807) : (Z1 n b && true) = true := by rw [roomy_of h h1]; rfl
def allI : List V → Prop
  | [] => True
  | x :: l => I64 (gi x 0) ∧ allI l
theorem allI_rd : ∀ {l : List V}, allI l → ∀ j, j < l.length → I64 (gi (rd l j) 0)
  | [], _, j, h => by simp at h
  | x :: l, ⟨h, _⟩, 0, _ => h
  | x :: l, ⟨_, h⟩, j + 1, hj => allI_rd h j (by simpa using hj)
theorem ZV (k : IntKind) (n : Int) : gi (V.int k n) 0 = n := rfl
theorem LW.takeL {W : V → Prop} {l : List V} (h : LW W l) (n : Nat) : LW W (l.take n) := ⟨by have := h.1; rw [List.length_take]; omega, fun x hx => h.2 x (List.mem_of_mem_take hx)⟩
theorem LW.dropL {W : V → Prop} {l : List V} (h : LW W l) (n : Nat) : LW W (l.drop n) := ⟨by have := h.1; rw [List.length_drop]; omega, fun x hx => h.2 x (List.mem_of_mem_drop hx)⟩
theorem W_int.mk {n : Int} (h : I64 n) : W_int (V.int .i64 n) := h
end Go.Eng.R
open Go Go.Eng
namespace Go.Eng.R
theorem bAnd_le (a : Int) {b : Int} (h0 : 0 ≤ b) (h1 : b ≤ 9223372036854775807) : 0 ≤ bAnd .i64 a b ∧ bAnd .i64 a b ≤ b := by
  unfold bAnd
  have e : (BitVec.ofInt (IntKind.bits .i64) b).toNat = b.toNat := by
    rw [BitVec.toNat_ofInt]
    rw [Int.emod_eq_of_lt h0 (by show b < ((2 ^ 64 : Nat) : Int); omega)]
  have h : (BitVec.ofInt (IntKind.bits .i64) a &&& BitVec.ofInt (IntKind.bits .i64) b).toNat ≤ b.toNat := by
    rw [BitVec.toNat_and, e]
    exact Nat.and_le_right
  rw [ZW (by omega) (by omega)]
  omega
def ZM (c : V) : Prop := LW Zck (gl c 0) ∧ 0 ≤ gi c 1 ∧ gi c 1 ≤ (((gl c 0).length : Nat) : Int)
theorem byte_ok {c : V} (h : ZM c) : ∃ x c', Zb7 (Za c) = some (x, c') ∧ ZM c' ∧ 0 ≤ x ∧ x ≤ 255 ∧ gl c' 0 = gl c 0 := by
  obtain ⟨h1, h2, h3⟩ := h
  have hl := h1.1
  unfold Zb7
  simp only [show gl (Za c) 0 = gl c 0 from rfl, show gi (Za c) 1 = gi c 1 from rfl]
  by_cases hc : gi c 1 < (((gl c 0).length : Nat) : Int)
  · rw [decide_eq_true hc, show Zq (gi c 1) (gl c 0).length = true from by simp [Zq]; omega]
    simp only [cond_true]
    refine ⟨_, _, rfl, ⟨h1, ?_, ?_⟩, (bAnd_le _ (by decide) (by decide)).1, (bAnd_le _ (by decide) (by decide)).2, rfl⟩
    · show 0 ≤ IntKind.i64.wrap (gi c 1 + 1)
      rw [ZW (by omega) (by omega)]; omega
    · show IntKind.i64.wrap (gi c 1 + 1) ≤ _
      rw [ZW (by omega) (by omega)]; show gi c 1 + 1 ≤ (((gl c 0).length : Nat) : Int); omega
  · rw [decide_eq_false hc]
    simp only [cond_false]
    exact ⟨_, _, rfl, ⟨h1, h2, h3⟩, (bAnd_le _ (by decide) (by decide)).1, (bAnd_le _ (by decide) (by decide)).2, rfl⟩
theorem tmod_lt {x n : Int} (hx : 0 ≤ x) (hn : 0 < n) : 0 ≤ x.tmod n ∧ x.tmod n < n := by
  rw [Int.tmod_eq_emod_of_nonneg hx]
  exact ⟨Int.emod_nonneg _ (by omega), Int.emod_lt_of_pos _ hn⟩
theorem below_ok {c : V} (h : ZM c) {n : Int} (hn : 0 < n) : ∃ x c', Zh (Za c) n = some (x, c') ∧ ZM c' ∧ 0 ≤ x ∧ x < n := by
  unfold Zh
  rw [decide_eq_false (p := n ≤ 0) (by omega), decide_eq_false (p := n = 0) (by omega)]
  simp only [cond_false, show Za (Za c) = Za c from rfl]
  obtain ⟨x, c', e, h', x0, x1, -⟩ := byte_ok h
  by_cases h2 : n ≤ 256
  · rw [decide_eq_true h2, e]
    exact ⟨_, _, rfl, h', (tmod_lt x0 hn).1, (tmod_lt x0 hn).2⟩
  · rw [decide_eq_false h2, e]
    obtain ⟨x2, c2, e2, h2', y0, y1, -⟩ := byte_ok h'
    obtain ⟨x3, c3, e3, h3', z0', z1, -⟩ := byte_ok h2'
    obtain ⟨x4, c4, e4, h4', w0, w1, -⟩ := byte_ok h3'
    simp only [Option.bind_some, e2, e3, e4, cond_false, Bool.not_false, cond_true]
    have hs : IntKind.i64.wrap (IntKind.i64.wrap (IntKind.i64.wrap (IntKind.i64.wrap (x * 16777216) + IntKind.i64.wrap (x2 * 65536)) + IntKind.i64.wrap (x3 * 256)) + x4) = x * 16777216 + x2 * 65536 + x3 * 256 + x4 := by
      rw [ZW (n := x * 16777216) (by omega) (by omega), ZW (n := x2 * 65536) (by omega) (by omega), ZW (n := x3 * 256) (by omega) (by omega), ZW (n := x * 16777216 + x2 * 65536) (by omega) (by omega), ZW (n := x * 16777216 + x2 * 65536 + x3 * 256) (by omega) (by omega), ZW (by omega) (by omega)]
    rw [hs]
    have hm := tmod_lt (x := x * 16777216 + x2 * 65536 + x3 * 256 + x4) (by omega) hn
    exact ⟨_, _, rfl, h4', hm.1, hm.2⟩
theorem pick_ok {c : V} (h : ZM c) {l : List V} (hl : 0 < l.length) : ∃ j c', Z4 (Za c) l = some (gi (rd l j) 0, c') ∧ ZM c' ∧ j < l.length := by
  obtain ⟨x, c', e, h', x0, x1⟩ := below_ok h (n := ((l.length : Nat) : Int)) (by omega)
  unfold Z4
  rw [show Za (Za c) = Za c from rfl, e]
  simp only [Option.bind_some]
  rw [show Zq x l.length = true from by simp [Zq]; omega]
  exact ⟨x.toNat, _, rfl, h', by omega⟩
theorem new_ok {code : List V} (h : LW Zck code) : ∃ c, ZdV code = some c ∧ ZM c := by
  unfold ZdV
  rw [Zba]
  have key := Zbc (F := fun m s i => ZbY m code s i) (n := code.length) (I := fun _ _ => True) (Q := fun r => ∃ s, r = some (code, s)) ?_ ?_ (s := IntKind.i64.wrap (36565 + ((code.length : Nat) : Int))) trivial
  · obtain ⟨s, e⟩ := key
    refine ⟨_, congrArg (fun o => Option.bind o _) e, h, by show (0 : Int) ≤ 0; decide, by show (0 : Int) ≤ ((code.length : Nat) : Int); omega⟩
  · intro m i s hi _
    simp only [ZbY, Zbo hi, ZG hi, cond_true, Za2 hi h.1]
    by_cases h4 : (i : Int) < 4000
    · rw [decide_eq_true h4]; exact .inl ⟨_, rfl, trivial⟩
    · rw [decide_eq_false h4]; exact .inr ⟨_, rfl⟩
  · intro m s _
    simp only [ZbY, ZaW, cond_false]
    exact ⟨_, rfl⟩
theorem tmod_O {x n : Int} (h0 : 0 ≤ x) (h1 : 0 < n) : 0 ≤ x.tmod n ∧ x.tmod n ≤ x ∧ x.tmod n < n := by
  have := tmod_lt h0 h1
  refine ⟨this.1, ?_, this.2⟩
  rw [Int.tmod_eq_emod_of_nonneg h0]
  have h2 := Int.mul_ediv_add_emod x n
  have h3 : 0 ≤ n * (x / n) := Int.mul_nonneg (by omega) (Int.ediv_nonneg h0 (by omega))
  omega
theorem below_O {c : V} (h : ZM c) (n : Int) : Ok (fun r => ZM r.2 ∧ 0 ≤ r.1 ∧ r.1 ≤ 4294967295 ∧ (r.1 < n ∨ r.1 = 0)) (Zh (Za c) n) := by
  by_cases hn : 0 < n
  · unfold Zh
    rw [decide_eq_false (p := n ≤ 0) (by omega), decide_eq_false (p := n = 0) (by omega)]
    simp only [cond_false, show Za (Za c) = Za c from rfl]
    obtain ⟨x, c', e, h', x0, x1, -⟩ := byte_ok h
    by_cases h2 : n ≤ 256
    · rw [decide_eq_true h2, e]
      obtain ⟨m0, m1, m2⟩ := tmod_O x0 hn
      exact ⟨_, rfl, h', m0, by show x.tmod n ≤ _; omega, .inl m2⟩
    · rw [decide_eq_false h2, e]
      obtain ⟨x2, c2, e2, h2', y0, y1, -⟩ := byte_ok h'
      obtain ⟨x3, c3, e3, h3', z0', z1, -⟩ := byte_ok h2'
      obtain ⟨x4, c4, e4, h4', w0, w1, -⟩ := byte_ok h3'
      simp only [Option.bind_some, e2, e3, e4, cond_false, Bool.not_false, cond_true]
      have hs : IntKind.i64.wrap (IntKind.i64.wrap (IntKind.i64.wrap (IntKind.i64.wrap (x * 16777216) + IntKind.i64.wrap (x2 * 65536)) + IntKind.i64.wrap (x3 * 256)) + x4) = x * 16777216 + x2 * 65536 + x3 * 256 + x4 := by
        rw [ZW (n := x * 16777216) (by omega) (by omega), ZW (n := x2 * 65536) (by omega) (by omega), ZW (n := x3 * 256) (by omega) (by omega), ZW (n := x * 16777216 + x2 * 65536) (by omega) (by omega), ZW (n := x * 16777216 + x2 * 65536 + x3 * 256) (by omega) (by omega), ZW (by omega) (by omega)]
      rw [hs]
      obtain ⟨m0, m1, m2⟩ := tmod_O (x := x * 16777216 + x2 * 65536 + x3 * 256 + x4) (by omega) hn
      exact ⟨_, rfl, h4', m0, by show Int.tmod _ n ≤ _; omega, .inl m2⟩
  · unfold Zh
    rw [decide_eq_true (p := n ≤ 0) (by omega)]
    exact ⟨_, rfl, h, by show (0 : Int) ≤ 0; omega, by show (0 : Int) ≤ 4294967295; omega, .inr rfl⟩
theorem once_O {c : V} (h : ZM c) (n : Int) : Ok (fun r => ZM r.2) (ZaI (Za c) n) := by
  obtain ⟨x, e, h', -⟩ := below_O h n
  unfold ZaI
  rw [show Za (Za c) = Za c from rfl, e]
  exact ⟨_, rfl, h'⟩
theorem pick_O {c : V} (h : ZM c) {l : List V} (hl : 0 < l.length) (ha : allI l) : Ok (fun r => ZM r.2 ∧ I64 r.1) (Z4 (Za c) l) := by
  obtain ⟨j, c', e, h1, h2⟩ := pick_ok h hl
  exact ⟨_, e, h1, allI_rd ha j h2⟩
theorem new_O {code : List V} (h : LW Zck code) : Ok ZM (ZdV code) := by
  obtain ⟨c, e, h1⟩ := new_ok h
  exact ⟨_, e, h1⟩
theorem nn_cur (c : V) : Za (Za c) = Za c := rfl
theorem ZcT {c : V} (h : ZM c) (n : Int) : Ok2 (fun x c => ZM c ∧ 0 ≤ x ∧ x ≤ 4294967295 ∧ (x < n ∨ x = 0)) (Zh (Za c) n) := .of (below_O h n)
theorem once_P {c : V} (h : ZM c) (n : Int) : Ok2 (fun (x : Bool) c => ZM c) (ZaI (Za c) n) := .of (once_O h n)
theorem pick_P {c : V} (h : ZM c) {l : List V} (hl : 0 < l.length) (ha : allI l) : Ok2 (fun x c => ZM c ∧ I64 x) (Z4 (Za c) l) := .of (pick_O h hl ha)
end Go.Eng.R
open Go Go.Eng
namespace Go.Eng.R
set_option maxRecDepth 100000
def BS (l : List V) : Prop := LW Zck l ∧ l.length ≤ 20
def bsB (l : List V) : Bool := l.all (fun x => decide (0 ≤ gi x 0 ∧ gi x 0 ≤ 255)) && decide (l.length ≤ 20)
theorem bsB_spec {l : List V} (h : bsB l = true) : BS l := by
  unfold bsB at h
  simp only [Bool.and_eq_true, List.all_eq_true, decide_eq_true_eq] at h
  exact ⟨⟨by omega, fun x hx => h.1 x hx⟩, h.2⟩
theorem BS.nil : BS [] := bsB_spec rfl
def bsAll (l : List V) : Bool := l.all fun x => bsB (gs x 0)
theorem bsAll_rd {l : List V} (h : bsAll l = true) {j : Nat} (hj : j < l.length) : BS (gs (rd l j) 0) := by
  unfold bsAll at h
  rw [List.all_eq_true] at h
  refine bsB_spec (h _ ?_)
  rw [rd_eq hj]; exact List.getElem_mem hj
theorem drawVal_O {c : V} (h : ZM c) : Ok2 (fun x c => ZM c ∧ BS x) (Zcd (Za c)) := by
  unfold Zcd
  refine .of ?_
  have h' : ZM (Za c) := h
  ((repeat' (((with_reducible refine (id ?_ : Ok _ _)); first | (with_reducible refine Ok.chk (by (first | (refine Zcm ?_ ?_ <;> (try simp only) <;> omega) | (refine ZbU ?_ ?_ <;> (try simp only [List.length_set, List.length_append, List.length_cons, List.length_nil, List.length_replicate, Nat.zero_add]) <;> omega) | assumption | (simp; done) | (simp; omega))) ?_) | ((with_reducible refine Ok.iteT ?_ ?_); (next => first | exact decide_eq_true (by with_reducible rfl) | (refine congrArg not (decide_eq_false ?_); intro h; revert h; dsimp only; decide))) | ((with_reducible refine Ok.iteF ?_ ?_); (next => first | (refine decide_eq_false ?_; intro h; revert h; dsimp only; decide) | exact congrArg not (decide_eq_true (by with_reducible rfl)))) | (with_reducible refine Ok.ite (fun _ => ?_) (fun _ => ?_) <;> (rename_i h; try simp only [decide_eq_true_eq, decide_eq_false_iff_not, Bool.not_eq_true', Bool.not_eq_false', Int.not_lt, Int.not_le] at h)) | (((with_reducible refine Ok.bind2 (ZcT (by assumption) _) ?_); rintro _ _ ⟨_, _, _, _⟩)) | with_reducible refine Ok.ret ?_))))
  exact ⟨by assumption, bsAll_rd rfl (by simp; omega)⟩
theorem drawKey_O {c : V} (h : ZM c) : Ok2 (fun x c => ZM c ∧ BS x) (ZbF (Za c)) := by
  unfold ZbF
  refine .of ?_
  have h' : ZM (Za c) := h
  ((repeat' (((with_reducible refine (id ?_ : Ok _ _)); first | (with_reducible refine Ok.chk (by (first | (refine Zcm ?_ ?_ <;> (try simp only) <;> omega) | (refine ZbU ?_ ?_ <;> (try simp only [List.length_set, List.length_append, List.length_cons, List.length_nil, List.length_replicate, Nat.zero_add]) <;> omega) | assumption | (simp; done) | (simp; omega))) ?_) | ((with_reducible refine Ok.iteT ?_ ?_); (next => first | exact decide_eq_true (by with_reducible rfl) | (refine congrArg not (decide_eq_false ?_); intro h; revert h; dsimp only; decide))) | ((with_reducible refine Ok.iteF ?_ ?_); (next => first | (refine decide_eq_false ?_; intro h; revert h; dsimp only; decide) | exact congrArg not (decide_eq_true (by with_reducible rfl)))) | (with_reducible refine Ok.ite (fun _ => ?_) (fun _ => ?_) <;> (rename_i h; try simp only [decide_eq_true_eq, decide_eq_false_iff_not, Bool.not_eq_true', Bool.not_eq_false', Int.not_lt, Int.not_le] at h)) | (((with_reducible refine Ok.bind2 (ZcT (by assumption) _) ?_); rintro _ _ ⟨_, _, _, _⟩)) | with_reducible refine Ok.ret ?_))))
  exact ⟨by assumption, bsAll_rd rfl (by simp; omega)⟩
def B_Op (x : V) : Prop := I64 (gi x 0) ∧ BS (gl x 1) ∧ BS (gl x 2) ∧ I64 (gi x 3)
theorem op_O {c : V} (h : ZM c) (i : Int) : Ok2 (fun x c => ZM c ∧ B_Op x) (spec_l2op (Za c) i) := by
  unfold spec_l2op
  refine .of ?_
  obtain ⟨j, c', e, h1, hj⟩ := pick_ok h (l := [(V.int .i64 1), (V.int .i64 1), (V.int .i64 1), (V.int .i64 2), (V.int .i64 3), (V.int .i64 3), (V.int .i64 4), (V.int .i64 5), (V.int .i64 6), (V.int .i64 6), (V.int .i64 7), (V.int .i64 0)]) (by decide)
  have hv : gi (rd [(V.int .i64 1), (V.int .i64 1), (V.int .i64 1), (V.int .i64 2), (V.int .i64 3), (V.int .i64 3), (V.int .i64 4), (V.int .i64 5), (V.int .i64 6), (V.int .i64 6), (V.int .i64 7), (V.int .i64 0)] j) 0 ∈ [(0 : Int), 1, 2, 3, 4, 5, 6, 7] := by
    have hj' : j ∈ List.range 12 := List.mem_range.2 hj
    revert j
    intro j _ _ hj
    have key : ∀ j ∈ List.range 12, gi (rd [(V.int .i64 1), (V.int .i64 1), (V.int .i64 1), (V.int .i64 2), (V.int .i64 3), (V.int .i64 3), (V.int .i64 4), (V.int .i64 5), (V.int .i64 6), (V.int .i64 6), (V.int .i64 7), (V.int .i64 0)] j) 0 ∈ [(0 : Int), 1, 2, 3, 4, 5, 6, 7] := by decide
    exact key j hj
  rw [nn_cur, e]
  refine Ok.bind2 (Q := fun a b => a = gi (rd [(V.int .i64 1), (V.int .i64 1), (V.int .i64 1), (V.int .i64 2), (V.int .i64 3), (V.int .i64 3), (V.int .i64 4), (V.int .i64 5), (V.int .i64 6), (V.int .i64 6), (V.int .i64 7), (V.int .i64 0)] j) 0 ∧ b = c') ⟨_, _, rfl, rfl, rfl⟩ ?_
  rintro a b ⟨ha, rfl⟩
  rw [← ha] at hv
  clear ha e
  simp only [List.mem_cons, List.not_mem_nil, or_false] at hv
  rcases hv with rfl | rfl | rfl | rfl | rfl | rfl | rfl | rfl
  all_goals ((repeat' (((with_reducible refine (id ?_ : Ok _ _)); first | (with_reducible refine Ok.chk (by (first | (refine Zcm ?_ ?_ <;> (try simp only [List.length_set, List.length_append, List.length_cons, List.length_nil, List.length_replicate, Nat.zero_add]) <;> omega) | (refine ZbU ?_ ?_ <;> (try simp only [List.length_set, List.length_append, List.length_cons, List.length_nil, List.length_replicate, Nat.zero_add]) <;> omega) | assumption | (simp; done) | (simp; omega))) ?_) | ((with_reducible refine Ok.iteT ?_ ?_); (next => first | exact decide_eq_true (by with_reducible rfl) | (refine congrArg not (decide_eq_false ?_); intro h; revert h; dsimp only; decide))) | ((with_reducible refine Ok.iteF ?_ ?_); (next => first | (refine decide_eq_false ?_; intro h; revert h; dsimp only; decide) | exact congrArg not (decide_eq_true (by with_reducible rfl)))) | (with_reducible refine Ok.ite (fun _ => ?_) (fun _ => ?_) <;> (rename_i h; try simp only [decide_eq_true_eq, decide_eq_false_iff_not, Int.not_lt] at h)) | (first | (((with_reducible refine Ok.bind2 (drawKey_O (by assumption)) ?_); rintro _ _ ⟨_, _⟩)) | (((with_reducible refine Ok.bind2 (drawVal_O (by assumption)) ?_); rintro _ _ ⟨_, _⟩)) | (((with_reducible refine Ok.bind2 (pick_P (by assumption) ?_ ?_) ?_); (next => exact Nat.succ_pos _); (next => repeat' (first | trivial | ((repeat' (first | dsimp only [ZD, ZE, ZH, ZI, ZV] | with_reducible assumption | with_reducible exact wrI _ | (unfold I64; constructor <;> omega) | omega | (simp only [List.length_set, List.length_append, List.length_cons, List.length_nil, List.length_take, List.length_drop]; omega) | with_reducible refine LW.set' ?_ _ ?_ | with_reducible refine LW.snoc ?_ ?_ ?_ | with_reducible refine LW.takeL ?_ _ | with_reducible refine LW.dropL ?_ _ | with_reducible refine W_int.mk ?_ | assumption)); done) | refine And.intro ?_ ?_)); rintro _ _ ⟨_, _⟩)) | (((with_reducible refine Ok.bind2 (ZcT (by assumption) _) ?_); rintro _ _ ⟨_, _, _, _⟩))) | with_reducible refine Ok.ret ?_))))
  all_goals (refine ⟨by assumption, ?_, ?_, ?_, ?_⟩ <;> (try dsimp only [ZD, ZE, ZH, ZI]) <;> first | with_reducible assumption | with_reducible exact wrI _ | with_reducible exact BS.nil | ((unfold I64; constructor <;> omega)) | assumption)
def B_Item (x : V) : Prop := I64 (gi x 0) ∧ I64 (gi x 1) ∧ I64 (gi x 2) ∧ I64 (gi x 3) ∧ BS (gl x 4) ∧ BS (gl x 5) ∧ I64 (gi x 6)
theorem drawItem_O {c : V} (h : ZM c) {t : Int} (ht : I64 t) : Ok2 (fun x c => ZM c ∧ B_Item x) (Za0 (Za c) t) := by
  unfold Za0
  refine .of ?_
  have h' : ZM (Za c) := h
  ((repeat' (((with_reducible refine (id ?_ : Ok _ _)); first | (with_reducible refine Ok.chk (by (first | (refine Zcm ?_ ?_ <;> (try simp only [List.length_set, List.length_append, List.length_cons, List.length_nil, List.length_replicate, Nat.zero_add]) <;> omega) | (refine ZbU ?_ ?_ <;> (try simp only [List.length_set, List.length_append, List.length_cons, List.length_nil, List.length_replicate, Nat.zero_add]) <;> omega) | assumption | (simp; done) | (simp; omega))) ?_) | ((with_reducible refine Ok.iteT ?_ ?_); (next => first | exact decide_eq_true (by with_reducible rfl) | (refine congrArg not (decide_eq_false ?_); intro h; revert h; dsimp only; decide))) | ((with_reducible refine Ok.iteF ?_ ?_); (next => first | (refine decide_eq_false ?_; intro h; revert h; dsimp only; decide) | exact congrArg not (decide_eq_true (by with_reducible rfl)))) | (with_reducible refine Ok.ite (fun _ => ?_) (fun _ => ?_) <;> (rename_i h; try simp only at h)) | (first | (((with_reducible refine Ok.bind2 (op_O (by assumption) _) ?_); rintro _ _ ⟨_, _, _, _, _⟩)) | (((with_reducible refine Ok.bind2 (once_P (by assumption) _) ?_); rintro _ _ _)) | (((with_reducible refine Ok.bind2 (ZcT (by assumption) _) ?_); rintro _ _ ⟨_, _, _, _⟩))) | with_reducible refine Ok.ret ?_))))
  all_goals (refine ⟨by assumption, ?_, ?_, ?_, ?_, ?_, ?_, ?_⟩ <;> (try dsimp only [ZD, ZE, ZH, ZI]) <;> first | with_reducible assumption | with_reducible exact wrI _ | with_reducible exact BS.nil | ((unfold I64; constructor <;> omega)) | assumption)
theorem drawLog_O {c : V} (h : ZM c) {n : Int} (h0 : 0 ≤ n) (h1 : n ≤ 20) : Ok2 (fun x c => ZM c ∧ LW B_Item x ∧ x.length ≤ 20) (Zdk (Za c) n) := by
  have key : ∀ (k : Nat) (t i : Int) (b : V) (l : List V), ZM b → LW B_Item l → I64 t → 0 ≤ i → (l.length : Int) = i → i ≤ n → (n - i).toNat < k →
      Ok2 (fun c x => ZM c ∧ LW B_Item x ∧ x.length ≤ 20) (Zbx k n t i (Za b) l) := by
    intro k
    induction k with
    | zero => intros; omega
    | succ k ih =>
      intro t i b l hb hl ht hi hli hin hk
      simp only [Zbx]
      refine .of ?_
      have hb' : ZM (Za b) := hb
      ((repeat' (((with_reducible refine (id ?_ : Ok _ _)); first | (with_reducible refine Ok.chk (by (first | (refine Zcm ?_ ?_ <;> (try simp only [List.length_set, List.length_append, List.length_cons, List.length_nil, List.length_replicate, Nat.zero_add]) <;> omega) | (refine ZbU ?_ ?_ <;> (try simp only [List.length_set, List.length_append, List.length_cons, List.length_nil, List.length_replicate, Nat.zero_add]) <;> omega) | assumption | (simp; done) | (simp; omega))) ?_) | ((with_reducible refine Ok.iteT ?_ ?_); (next => first | exact decide_eq_true (by with_reducible rfl) | (refine congrArg not (decide_eq_false ?_); intro h; revert h; dsimp only; decide))) | ((with_reducible refine Ok.iteF ?_ ?_); (next => first | (refine decide_eq_false ?_; intro h; revert h; dsimp only; decide) | exact congrArg not (decide_eq_true (by with_reducible rfl)))) | (with_reducible refine Ok.ite (fun _ => ?_) (fun _ => ?_) <;> (rename_i h; try simp only [decide_eq_true_eq, decide_eq_false_iff_not, Int.not_lt] at h)) | (first | (((with_reducible refine Ok.bind2 (drawItem_O (by assumption) ?_) ?_); (next => first | assumption | with_reducible exact wrI _ | ((unfold I64; constructor <;> omega))); rintro _ _ ⟨_, _⟩)) | (((with_reducible refine Ok.bind2 (ZcT (by assumption) _) ?_); rintro _ _ ⟨_, _, _, _⟩))) | with_reducible refine Ok.ret ?_))))
      · refine (ih _ _ _ _ (by assumption) (LW.snoc hl (by omega) (by assumption)) (wrI _) ?_ ?_ ?_ ?_).ok <;> (rw [ZW (n := i + 1) (by omega) (by omega)]; try simp only [List.length_append, List.length_cons, List.length_nil]) <;> omega
      · exact ⟨hb, hl, by show l.length ≤ 20; omega⟩
  unfold Zdk
  refine .of (Ok.bind2 (key ((n - 0).toNat + 1) 1 0 c [] h LW.nil ⟨by decide, by decide⟩ (by decide) rfl h0 (by omega)) ?_)
  rintro _ _ ⟨_, _, _⟩
  exact Ok.ret ⟨by assumption, by assumption, by assumption⟩
end Go.Eng.R
open Go Go.Eng
namespace Go.Eng.R
set_option maxRecDepth 100000
theorem count_O {c : V} (h : ZM c) : Ok2 (fun x c => ZM c ∧ 1 ≤ x ∧ x ≤ 5) (ZdW (Za c)) := by
  unfold ZdW
  obtain ⟨j, c', e, h1, hj⟩ := pick_ok h (l := [(V.int .i64 1), (V.int .i64 2), (V.int .i64 3), (V.int .i64 3), (V.int .i64 3), (V.int .i64 5)]) (by decide)
  rw [nn_cur, e]
  have key : ∀ j ∈ List.range 6, 1 ≤ gi (rd [(V.int .i64 1), (V.int .i64 2), (V.int .i64 3), (V.int .i64 3), (V.int .i64 3), (V.int .i64 5)] j) 0 ∧ gi (rd [(V.int .i64 1), (V.int .i64 2), (V.int .i64 3), (V.int .i64 3), (V.int .i64 3), (V.int .i64 5)] j) 0 ≤ 5 := by decide
  have := key j (List.mem_range.2 hj)
  exact ⟨_, _, rfl, h1, this.1, this.2⟩
def IsNew (id servers : Int) (n : V) : Prop := gi n 0 = id ∧ gi n 5 = 0 ∧ ((gl n 8).length : Int) = servers ∧ LW W_int (gl n 9) ∧ ((gl n 9).length : Int) = servers ∧ LW W_int (gl n 10) ∧ ((gl n 10).length : Int) = servers
theorem newN_O (id : Int) {servers : Int} (h0 : 1 ≤ servers) (h1 : servers ≤ 5) : Ok (IsNew id servers) (spec_l4new id servers) := by
  unfold spec_l4new
  rw [decide_eq_true (p := (0 : Int) ≤ servers) (by omega), decide_eq_true (p := servers = servers) rfl, roomy_of (n := servers.toNat) (b := 1) (by omega) (by omega), roomy_of (n := servers.toNat) (b := 8) (by omega) (by omega)]
  have hz : LW W_int (List.replicate servers.toNat (V.int .i64 0)) := LW.rep (by omega) (⟨by decide, by decide⟩ : I64 0)
  have hl : ∀ x : V, ((List.replicate servers.toNat x).length : Int) = servers := fun x => by rw [List.length_replicate]; omega
  exact ⟨_, rfl, rfl, rfl, hl _, hz, hl _, hz, hl _⟩
def B_Node (m : Nat) (n : V) : Prop := I64 (gi n 0) ∧ I64 (gi n 1) ∧ I64 (gi n 2) ∧ LW B_Item (gl n 3) ∧ (gl n 3).length ≤ 396 + m ∧ I64 (gi n 4) ∧ I64 (gi n 5) ∧ I64 (gi n 6) ∧ I64 (gi n 7) ∧ (gl n 8).length ≤ m ∧ LW W_int (gl n 9) ∧ (gl n 9).length ≤ m ∧ LW W_int (gl n 10) ∧ (gl n 10).length ≤ m
theorem termAt_O {n : V} (hl : LW B_Item (gl n 3)) (p : Int) : Ok I64 (Zc1 n p) := by
  unfold Zc1
  by_cases h1 : p < 1
  · rw [decide_eq_true h1]; exact ⟨_, rfl, by ((unfold I64; constructor <;> omega))⟩
  by_cases h2 : (((gl n 3).length : Nat) : Int) < p
  · rw [decide_eq_false h1, decide_eq_true h2]; exact ⟨_, rfl, by ((unfold I64; constructor <;> omega))⟩
  have hl1 := hl.1
  rw [decide_eq_false h1, decide_eq_false h2, ZW (n := p - 1) (by omega) (by omega), Zcm (i := p - 1) (by omega) (by omega)]
  exact ⟨_, rfl, (LW.rd hl (i := (p - 1).toNat) (by omega)).1⟩
theorem node_loop {servers k6 : Int} (hs0 : 1 ≤ servers) (hs1 : servers ≤ 5) (r3 : List V) (r4 r5 r6 r7 r8 : List V) (w7 : LW B_Item r7) (l7 : r7.length ≤ 401) (l8 : r8.length ≤ 5) : ∀ (k : Nat) (i : Int) (b b1 b2 : V) (r9 r10 : List V), ZM b → 0 ≤ i → i ≤ servers → (servers - i).toNat < k →
    LW W_int r9 → (r9.length : Int) = servers → LW W_int r10 → (r10.length : Int) = servers → I64 (gi b2 0) → I64 (gi b2 1) → I64 (gi b2 2) → I64 (gi b2 4) → I64 (gi b2 5) → I64 (gi b2 6) → I64 (gi b2 7) →
    Ok (fun r => ZM r.1 ∧ I64 (gi r.2.2.1 0) ∧ I64 (gi r.2.2.1 1) ∧ I64 (gi r.2.2.1 2) ∧ I64 (gi r.2.2.1 4) ∧ I64 (gi r.2.2.1 5) ∧ I64 (gi r.2.2.1 6) ∧ I64 (gi r.2.2.1 7) ∧ LW B_Item r.2.2.2.2.2.2.2.1 ∧ r.2.2.2.2.2.2.2.1.length ≤ 401 ∧ r.2.2.2.2.2.2.2.2.1.length ≤ 5 ∧ LW W_int r.2.2.2.2.2.2.2.2.2.1 ∧ r.2.2.2.2.2.2.2.2.2.1.length ≤ 5 ∧ LW W_int r.2.2.2.2.2.2.2.2.2.2 ∧ r.2.2.2.2.2.2.2.2.2.2.length ≤ 5 ∧ 1 ≤ r.2.2.2.2.2.2.2.2.2.1.length ∧ 1 ≤ r.2.2.2.2.2.2.2.2.2.2.length)
      (Zbd k servers k6 i (Za b) b1 b2 r3 r4 r5 r6 r7 r8 r9 r10)
  | 0, _, _, _, _, _, _, _, _, _, h, _, _, _, _, _, _, _, _, _, _, _ => by omega
  | k + 1, i, b, b1, b2, r9, r10, hb, i0, i1, hk, w9, l9, w10, l10, p0, p1, p2, p4, p5, p6, p7 => by
    have hb' : ZM (Za b) := hb
    have hw : i < servers → IntKind.i64.wrap (i + 1) = i + 1 := fun _ => ZW (by omega) (by omega)
    unfold Zbd
    ((repeat' (((with_reducible refine (id ?_ : Ok _ _)); first | (with_reducible refine Ok.chk (by (first | (refine Zcm ?_ ?_ <;> (try simp only [List.length_set, Nat.zero_add]) <;> omega) | (refine ZbU ?_ ?_ <;> (try simp only [List.length_set, List.length_append, List.length_cons, List.length_nil, List.length_replicate, Nat.zero_add]) <;> omega) | assumption | (simp; done) | (simp; omega))) ?_) | ((with_reducible refine Ok.iteT ?_ ?_); (next => first | exact decide_eq_true (by with_reducible rfl) | (refine congrArg not (decide_eq_false ?_); intro h; revert h; dsimp only; decide))) | ((with_reducible refine Ok.iteF ?_ ?_); (next => first | (refine decide_eq_false ?_; intro h; revert h; dsimp only; decide) | exact congrArg not (decide_eq_true (by with_reducible rfl)))) | (with_reducible refine Ok.ite (fun _ => ?_) (fun _ => ?_) <;> (rename_i h; try simp only [decide_eq_true_eq, decide_eq_false_iff_not, Int.not_lt] at h)) | (first | (((with_reducible refine Ok.bind2 (once_P (by assumption) _) ?_); rintro _ _ _)) | (((with_reducible refine Ok.bind2 (ZcT (by assumption) _) ?_); rintro _ _ ⟨_, _, _, _⟩))) | with_reducible refine Ok.ret ?_))))
    · refine node_loop hs0 hs1 _ _ _ _ _ _ w7 l7 l8 k _ _ _ _ _ _ (by assumption) ?_ ?_ ?_ (LW.set' (LW.set' w9 _ (W_int.mk (wrI _))) _ (W_int.mk (wrI _))) (by simpa using l9) (LW.set' w10 _ ?_) (by simpa using l10) p0 p1 p2 p4 p5 p6 p7
      · rw [hw (by assumption)]; omega
      · rw [hw (by assumption)]; omega
      · rw [hw (by assumption)]; omega
      · refine W_int.mk ?_; dsimp only; ((unfold I64; constructor <;> omega))
    · refine node_loop hs0 hs1 _ _ _ _ _ _ w7 l7 l8 k _ _ _ _ _ _ (by assumption) ?_ ?_ ?_ (LW.set' w9 _ (W_int.mk (wrI _))) (by simpa using l9) (LW.set' w10 _ ?_) (by simpa using l10) p0 p1 p2 p4 p5 p6 p7
      · rw [hw (by assumption)]; omega
      · rw [hw (by assumption)]; omega
      · rw [hw (by assumption)]; omega
      · refine W_int.mk ?_; dsimp only; ((unfold I64; constructor <;> omega))
    · exact ⟨hb, p0, p1, p2, p4, p5, p6, p7, w7, l7, l8, w9, by show r9.length ≤ 5; omega, w10, by show r10.length ≤ 5; omega, by show 1 ≤ r9.length; omega, by show 1 ≤ r10.length; omega⟩
set_option maxHeartbeats 2000000 in
theorem node_O {c : V} (h : ZM c) {servers : Int} (hs0 : 1 ≤ servers) (hs1 : servers ≤ 5) : Ok2 (fun n c => ZM c ∧ B_Node 5 n ∧ 1 ≤ (gl n 9).length ∧ 1 ≤ (gl n 10).length) (Zd6 (Za c) servers) := by
  unfold Zd6
  refine .of ?_
  have h' : ZM (Za c) := h
  have hls : IntKind.i64.wrap (servers + 1) = servers + 1 := ZW (by omega) (by omega)
  ((repeat' (((with_reducible refine (id ?_ : Ok _ _)); first | (with_reducible refine Ok.chk (by (first | (refine Zcm ?_ ?_ <;> (try simp only [List.length_set, Nat.zero_add]) <;> omega) | (refine ZbU ?_ ?_ <;> (try simp only [List.length_set, List.length_append, List.length_cons, List.length_nil, List.length_replicate, Nat.zero_add]) <;> omega) | assumption | (simp; done) | (simp; omega))) ?_) | ((with_reducible refine Ok.iteT ?_ ?_); (next => first | exact decide_eq_true (by with_reducible rfl) | (refine congrArg not (decide_eq_false ?_); intro h; revert h; dsimp only; decide))) | ((with_reducible refine Ok.iteF ?_ ?_); (next => first | (refine decide_eq_false ?_; intro h; revert h; dsimp only; decide) | exact congrArg not (decide_eq_true (by with_reducible rfl)))) | (with_reducible refine Ok.ite (fun _ => ?_) (fun _ => ?_) <;> (rename_i h; try simp only [decide_eq_true_eq, decide_eq_false_iff_not, Int.not_lt] at h)) | (first | (((with_reducible refine Ok.bind (node_loop (by assumption) (by assumption) _ _ _ _ _ _ ?_ ?_ ?_ _ _ _ _ _ _ _ (by assumption) ?_ ?_ ?_ ?_ ?_ ?_ ?_ ?_ ?_ ?_ ?_ ?_ ?_ ?_) ?_); (next => ((repeat' (first | dsimp only [ZD, ZE, ZH, ZI, ZV] | with_reducible assumption | with_reducible exact wrI _ | (unfold I64; constructor <;> omega) | omega | (simp only [List.length_set, List.length_append, List.length_cons, List.length_nil, List.length_take, List.length_drop]; omega) | with_reducible refine LW.set' ?_ _ ?_ | with_reducible refine LW.snoc ?_ ?_ ?_ | with_reducible refine LW.takeL ?_ _ | with_reducible refine LW.dropL ?_ _ | with_reducible refine W_int.mk ?_ | assumption)); done)); (next => ((repeat' (first | dsimp only [ZD, ZE, ZH, ZI, ZV] | with_reducible assumption | with_reducible exact wrI _ | (unfold I64; constructor <;> omega) | omega | (simp only [List.length_set, List.length_append, List.length_cons, List.length_nil, List.length_take, List.length_drop]; omega) | with_reducible refine LW.set' ?_ _ ?_ | with_reducible refine LW.snoc ?_ ?_ ?_ | with_reducible refine LW.takeL ?_ _ | with_reducible refine LW.dropL ?_ _ | with_reducible refine W_int.mk ?_ | assumption)); done)); (next => ((repeat' (first | dsimp only [ZD, ZE, ZH, ZI, ZV] | with_reducible assumption | with_reducible exact wrI _ | (unfold I64; constructor <;> omega) | omega | (simp only [List.length_set]; omega) | with_reducible refine LW.set' ?_ _ ?_ | with_reducible refine LW.snoc ?_ ?_ ?_ | with_reducible refine LW.takeL ?_ _ | with_reducible refine LW.dropL ?_ _ | with_reducible refine W_int.mk ?_ | assumption)); done)); (next => ((repeat' (first | dsimp only [ZD, ZE, ZH, ZI, ZV] | with_reducible assumption | with_reducible exact wrI _ | (unfold I64; constructor <;> omega) | omega | (simp only [List.length_set, List.length_append, List.length_cons, List.length_nil, List.length_take, List.length_drop]; omega) | with_reducible refine LW.set' ?_ _ ?_ | with_reducible refine LW.snoc ?_ ?_ ?_ | with_reducible refine LW.takeL ?_ _ | with_reducible refine LW.dropL ?_ _ | with_reducible refine W_int.mk ?_ | assumption)); done)); (next => ((repeat' (first | dsimp only [ZD, ZE, ZH, ZI, ZV] | with_reducible assumption | with_reducible exact wrI _ | (unfold I64; constructor <;> omega) | omega | (simp only [List.length_set, List.length_append, List.length_cons, List.length_nil, List.length_take, List.length_drop]; omega) | with_reducible refine LW.set' ?_ _ ?_ | with_reducible refine LW.snoc ?_ ?_ ?_ | with_reducible refine LW.takeL ?_ _ | with_reducible refine LW.dropL ?_ _ | with_reducible refine W_int.mk ?_ | assumption)); done)); (next => ((repeat' (first | dsimp only [ZD, ZE, ZH, ZI, ZV] | with_reducible assumption | with_reducible exact wrI _ | (unfold I64; constructor <;> omega) | omega | (simp only [List.length_set, List.length_append, List.length_cons, List.length_nil, List.length_take, List.length_drop]; omega) | with_reducible refine LW.set' ?_ _ ?_ | with_reducible refine LW.snoc ?_ ?_ ?_ | with_reducible refine LW.takeL ?_ _ | with_reducible refine LW.dropL ?_ _ | with_reducible refine W_int.mk ?_ | assumption)); done)); (next => ((repeat' (first | dsimp only [ZD, ZE, ZH, ZI, ZV] | with_reducible assumption | with_reducible exact wrI _ | (unfold I64; constructor <;> omega) | omega | (simp only [List.length_set, List.length_append, List.length_cons, List.length_nil, List.length_take, List.length_drop]; omega) | with_reducible refine LW.set' ?_ _ ?_ | with_reducible refine LW.snoc ?_ ?_ ?_ | with_reducible refine LW.takeL ?_ _ | with_reducible refine LW.dropL ?_ _ | with_reducible refine W_int.mk ?_ | assumption)); done)); (next => ((repeat' (first | dsimp only [ZD, ZE, ZH, ZI, ZV] | with_reducible assumption | with_reducible exact wrI _ | (unfold I64; constructor <;> omega) | omega | (simp only [List.length_set, List.length_append, List.length_cons, List.length_nil, List.length_take, List.length_drop]; omega) | with_reducible refine LW.set' ?_ _ ?_ | with_reducible refine LW.snoc ?_ ?_ ?_ | with_reducible refine LW.takeL ?_ _ | with_reducible refine LW.dropL ?_ _ | with_reducible refine W_int.mk ?_ | assumption)); done)); (next => ((repeat' (first | dsimp only [ZD, ZE, ZH, ZI, ZV] | with_reducible assumption | with_reducible exact wrI _ | (unfold I64; constructor <;> omega) | omega | (simp only [List.length_set, List.length_append, List.length_cons, List.length_nil, List.length_take, List.length_drop]; omega) | with_reducible refine LW.set' ?_ _ ?_ | with_reducible refine LW.snoc ?_ ?_ ?_ | with_reducible refine LW.takeL ?_ _ | with_reducible refine LW.dropL ?_ _ | with_reducible refine W_int.mk ?_ | assumption)); done)); (next => ((repeat' (first | dsimp only [ZD, ZE, ZH, ZI, ZV] | with_reducible assumption | with_reducible exact wrI _ | (unfold I64; constructor <;> omega) | omega | (simp only [List.length_set, List.length_append, List.length_cons, List.length_nil, List.length_take, List.length_drop]; omega) | with_reducible refine LW.set' ?_ _ ?_ | with_reducible refine LW.snoc ?_ ?_ ?_ | with_reducible refine LW.takeL ?_ _ | with_reducible refine LW.dropL ?_ _ | with_reducible refine W_int.mk ?_ | assumption)); done)); (next => ((repeat' (first | dsimp only [ZD, ZE, ZH, ZI, ZV] | with_reducible assumption | with_reducible exact wrI _ | (unfold I64; constructor <;> omega) | omega | (simp only [List.length_set, List.length_append, List.length_cons, List.length_nil, List.length_take, List.length_drop]; omega) | with_reducible refine LW.set' ?_ _ ?_ | with_reducible refine LW.snoc ?_ ?_ ?_ | with_reducible refine LW.takeL ?_ _ | with_reducible refine LW.dropL ?_ _ | with_reducible refine W_int.mk ?_ | assumption)); done)); (next => ((repeat' (first | dsimp only [ZD, ZE, ZH, ZI, ZV] | with_reducible assumption | with_reducible exact wrI _ | (unfold I64; constructor <;> omega) | omega | (simp only [List.length_set, List.length_append, List.length_cons, List.length_nil, List.length_take, List.length_drop]; omega) | with_reducible refine LW.set' ?_ _ ?_ | with_reducible refine LW.snoc ?_ ?_ ?_ | with_reducible refine LW.takeL ?_ _ | with_reducible refine LW.dropL ?_ _ | with_reducible refine W_int.mk ?_ | assumption)); done)); (next => ((repeat' (first | dsimp only [ZD, ZE, ZH, ZI, ZV] | with_reducible assumption | with_reducible exact wrI _ | (unfold I64; constructor <;> omega) | omega | (simp only [List.length_set, List.length_append, List.length_cons, List.length_nil, List.length_take, List.length_drop]; omega) | with_reducible refine LW.set' ?_ _ ?_ | with_reducible refine LW.snoc ?_ ?_ ?_ | with_reducible refine LW.takeL ?_ _ | with_reducible refine LW.dropL ?_ _ | with_reducible refine W_int.mk ?_ | assumption)); done)); (next => ((repeat' (first | dsimp only [ZD, ZE, ZH, ZI, ZV] | with_reducible assumption | with_reducible exact wrI _ | (unfold I64; constructor <;> omega) | omega | (simp only [List.length_set, List.length_append, List.length_cons, List.length_nil, List.length_take, List.length_drop]; omega) | with_reducible refine LW.set' ?_ _ ?_ | with_reducible refine LW.snoc ?_ ?_ ?_ | with_reducible refine LW.takeL ?_ _ | with_reducible refine LW.dropL ?_ _ | with_reducible refine W_int.mk ?_ | assumption)); done)); (next => ((repeat' (first | dsimp only [ZD, ZE, ZH, ZI, ZV] | with_reducible assumption | with_reducible exact wrI _ | (unfold I64; constructor <;> omega) | omega | (simp only [List.length_set, List.length_append, List.length_cons, List.length_nil, List.length_take, List.length_drop]; omega) | with_reducible refine LW.set' ?_ _ ?_ | with_reducible refine LW.snoc ?_ ?_ ?_ | with_reducible refine LW.takeL ?_ _ | with_reducible refine LW.dropL ?_ _ | with_reducible refine W_int.mk ?_ | assumption)); done)); (next => ((repeat' (first | dsimp only [ZD, ZE, ZH, ZI, ZV] | with_reducible assumption | with_reducible exact wrI _ | (unfold I64; constructor <;> omega) | omega | (simp only [List.length_set, List.length_append, List.length_cons, List.length_nil, List.length_take, List.length_drop]; omega) | with_reducible refine LW.set' ?_ _ ?_ | with_reducible refine LW.snoc ?_ ?_ ?_ | with_reducible refine LW.takeL ?_ _ | with_reducible refine LW.dropL ?_ _ | with_reducible refine W_int.mk ?_ | assumption)); done)); (next => ((repeat' (first | dsimp only [ZD, ZE, ZH, ZI, ZV] | with_reducible assumption | with_reducible exact wrI _ | (unfold I64; constructor <;> omega) | omega | (simp only [List.length_set, List.length_append, List.length_cons, List.length_nil, List.length_take, List.length_drop]; omega) | with_reducible refine LW.set' ?_ _ ?_ | with_reducible refine LW.snoc ?_ ?_ ?_ | with_reducible refine LW.takeL ?_ _ | with_reducible refine LW.dropL ?_ _ | with_reducible refine W_int.mk ?_ | assumption)); done)); rintro _ ⟨_, _, _, _, _, _, _, _, _, _, _, _, _, _, _, _, _⟩)) | (((with_reducible refine Ok.bind (termAt_O ?_ _) ?_); (next => assumption); rintro _ _)) | (((with_reducible refine Ok.bind2 (drawLog_O (by assumption) ?_ ?_) ?_); (next => dsimp only; omega); (next => dsimp only; omega); rintro _ _ ⟨_, _, _⟩)) | (((with_reducible refine Ok.bind (newN_O _ (by assumption) (by assumption)) ?_); rintro _ ⟨_, _, _, _, _, _, _⟩)) | (((with_reducible refine Ok.bind2 (once_P (by assumption) _) ?_); rintro _ _ _)) | (((with_reducible refine Ok.bind2 (ZcT (by assumption) _) ?_); rintro _ _ ⟨_, _, _, _⟩))) | with_reducible refine Ok.ret ?_))))
  all_goals (refine ⟨by assumption, ⟨?_, ?_, ?_, ?_, ?_, ?_, ?_, ?_, ?_, ?_, ?_, ?_, ?_, ?_⟩, ?_, ?_⟩ <;> ((repeat' (first | dsimp only [ZD, ZE, ZH, ZI, ZV] | with_reducible assumption | with_reducible exact wrI _ | (unfold I64; constructor <;> omega) | omega | (simp only [List.length_set]; omega) | with_reducible refine LW.set' ?_ _ ?_ | with_reducible refine LW.snoc ?_ ?_ ?_ | with_reducible refine LW.takeL ?_ _ | with_reducible refine LW.dropL ?_ _ | with_reducible refine W_int.mk ?_ | assumption)); done))
end Go.Eng.R
open Go Go.Eng
namespace Go.Eng.R
set_option maxRecDepth 100000
theorem bound_400 {x : Int} (h0 : 0 ≤ x) (h1 : x < 2 ∨ x = 0) : IntKind.i64.wrap (200 + (IntKind.i64.wrap ((IntKind.i64.wrap (x * 400)).tdiv 2))) ≤ 400 := by
  have : x = 0 ∨ x = 1 := by omega
  rcases this with rfl | rfl <;> decide
theorem bent_loop (r3 : List V) (r4 r5 r6 r8 r9 r10 : List V) (l8 : r8.length ≤ 5) (w9 : LW W_int r9) (l9 : r9.length ≤ 5) (w10 : LW W_int r10) (l10 : r10.length ≤ 5) : ∀ (k : Nat) (b b1 b2 : V) (r7 : List V), ZM b → 401 - r7.length < k →
    LW B_Item r7 → r7.length ≤ 401 → I64 (gi b2 0) → I64 (gi b2 1) → I64 (gi b2 2) → I64 (gi b2 4) → I64 (gi b2 5) → I64 (gi b2 6) → I64 (gi b2 7) →
    Ok (fun r => ZM r.1 ∧ I64 (gi r.2.2.1 0) ∧ I64 (gi r.2.2.1 1) ∧ I64 (gi r.2.2.1 2) ∧ I64 (gi r.2.2.1 4) ∧ I64 (gi r.2.2.1 5) ∧ I64 (gi r.2.2.1 6) ∧ I64 (gi r.2.2.1 7) ∧ LW B_Item r.2.2.2.2.2.2.2.1 ∧ r.2.2.2.2.2.2.2.1.length ≤ 401 ∧ r.2.2.2.2.2.2.2.2.1.length ≤ 5 ∧ LW W_int r.2.2.2.2.2.2.2.2.2.1 ∧ r.2.2.2.2.2.2.2.2.2.1.length ≤ 5 ∧ LW W_int r.2.2.2.2.2.2.2.2.2.2 ∧ r.2.2.2.2.2.2.2.2.2.2.length ≤ 5)
      (Zce k (Za b) b1 b2 r3 r4 r5 r6 r7 r8 r9 r10)
  | 0, _, _, _, _, _, h, _, _, _, _, _, _, _, _, _ => by omega
  | k + 1, b, b1, b2, r7, hb, hk, w7, l7, p0, p1, p2, p4, p5, p6, p7 => by
    have hb' : ZM (Za b) := hb
    unfold Zce
    ((repeat' (((with_reducible refine (id ?_ : Ok _ _)); first | (with_reducible refine Ok.chk (by (first | (refine Zcm ?_ ?_ <;> (try simp only [List.length_set, List.length_append, List.length_cons, List.length_nil, List.length_replicate, Nat.zero_add]) <;> omega) | (refine ZbU ?_ ?_ <;> (try simp only [List.length_set, List.length_append, List.length_cons, List.length_nil, List.length_replicate, Nat.zero_add]) <;> omega) | assumption | (simp; done) | (simp; omega))) ?_) | ((with_reducible refine Ok.iteT ?_ ?_); (next => first | exact decide_eq_true (by with_reducible rfl) | (refine congrArg not (decide_eq_false ?_); intro h; revert h; dsimp only; decide))) | ((with_reducible refine Ok.iteF ?_ ?_); (next => first | (refine decide_eq_false ?_; intro h; revert h; dsimp only; decide) | exact congrArg not (decide_eq_true (by with_reducible rfl)))) | (with_reducible refine Ok.ite (fun _ => ?_) (fun _ => ?_) <;> (rename_i h; try simp only [decide_eq_true_eq, decide_eq_false_iff_not, Int.not_lt] at h)) | (((with_reducible refine Ok.bind2 (ZcT (by assumption) _) ?_); rintro _ _ ⟨_, _, _, _⟩)) | with_reducible refine Ok.ret ?_))))
    · have hx := bound_400 (by assumption) (by assumption)
      refine bent_loop r3 r4 r5 r6 r8 r9 r10 l8 w9 l9 w10 l10 k _ _ _ _ (by assumption) ?_ (LW.snoc w7 (by omega) ⟨p1, ?_, ?_, ?_, BS.nil, BS.nil, ?_⟩) ?_ p0 p1 p2 p4 p5 p6 p7
      · rw [List.length_append, List.length_cons, List.length_nil]; omega
      all_goals first | (rw [List.length_append, List.length_cons, List.length_nil]; omega) | ((repeat' (first | dsimp only [ZD, ZE, ZH, ZI, ZV] | with_reducible assumption | with_reducible exact wrI _ | (unfold I64; constructor <;> omega) | omega | (simp only [List.length_set, List.length_append, List.length_cons, List.length_nil, List.length_take, List.length_drop]; omega) | with_reducible refine LW.set' ?_ _ ?_ | with_reducible refine LW.snoc ?_ ?_ ?_ | with_reducible refine LW.takeL ?_ _ | with_reducible refine LW.dropL ?_ _ | with_reducible refine W_int.mk ?_ | assumption)); done)
    · exact ⟨by assumption, p0, p1, p2, p4, p5, p6, p7, w7, l7, l8, w9, l9, w10, l10⟩
set_option maxHeartbeats 2000000 in
theorem nbent_O {c : V} (h : ZM c) {servers : Int} (hs0 : 1 ≤ servers) (hs1 : servers ≤ 5) : Ok2 (fun n c => ZM c ∧ B_Node 10 n) (Zd7 (Za c) servers) := by
  unfold Zd7
  refine .of ?_
  have h' : ZM (Za c) := h
  ((repeat' (((with_reducible refine (id ?_ : Ok _ _)); first | (with_reducible refine Ok.chk (by (first | (refine Zcm ?_ ?_ <;> (try simp only) <;> omega) | (refine ZbU ?_ ?_ <;> (try simp only) <;> omega) | assumption | (simp; done) | (simp; omega))) ?_) | ((with_reducible refine Ok.iteT ?_ ?_); (next => first | exact decide_eq_true (by with_reducible rfl) | (refine congrArg not (decide_eq_false ?_); intro h; revert h; dsimp only; decide))) | ((with_reducible refine Ok.iteF ?_ ?_); (next => first | (refine decide_eq_false ?_; intro h; revert h; dsimp only; decide) | exact congrArg not (decide_eq_true (by with_reducible rfl)))) | (with_reducible refine Ok.ite (fun _ => ?_) (fun _ => ?_) <;> (rename_i h; try simp only [decide_eq_true_eq, decide_eq_false_iff_not, Bool.not_eq_true', Bool.not_eq_false'] at h)) | (first | (((with_reducible refine Ok.bind (bent_loop _ _ _ _ _ _ _ ?_ ?_ ?_ ?_ ?_ _ _ _ _ _ (by assumption) ?_ ?_ ?_ ?_ ?_ ?_ ?_ ?_ ?_ ?_) ?_); (next => ((repeat' (first | dsimp only [ZD, ZE, ZH, ZI, ZV] | with_reducible assumption | with_reducible exact wrI _ | (unfold I64; constructor <;> omega) | omega | (simp only [List.length_set, List.length_append, List.length_cons, List.length_nil, List.length_take, List.length_drop]; omega) | with_reducible refine LW.set' ?_ _ ?_ | with_reducible refine LW.snoc ?_ ?_ ?_ | with_reducible refine LW.takeL ?_ _ | with_reducible refine LW.dropL ?_ _ | with_reducible refine W_int.mk ?_ | assumption)); done)); (next => ((repeat' (first | dsimp only [ZD, ZE, ZH, ZI, ZV] | with_reducible assumption | with_reducible exact wrI _ | (unfold I64; constructor <;> omega) | omega | (simp only [List.length_set, List.length_append, List.length_cons, List.length_nil, List.length_take, List.length_drop]; omega) | with_reducible refine LW.set' ?_ _ ?_ | with_reducible refine LW.snoc ?_ ?_ ?_ | with_reducible refine LW.takeL ?_ _ | with_reducible refine LW.dropL ?_ _ | with_reducible refine W_int.mk ?_ | assumption)); done)); (next => ((repeat' (first | dsimp only [ZD, ZE, ZH, ZI, ZV] | with_reducible assumption | with_reducible exact wrI _ | (unfold I64; constructor <;> omega) | omega | (simp only [List.length_set, List.length_append, List.length_cons, List.length_nil, List.length_take, List.length_drop]; omega) | with_reducible refine LW.set' ?_ _ ?_ | with_reducible refine LW.snoc ?_ ?_ ?_ | with_reducible refine LW.takeL ?_ _ | with_reducible refine LW.dropL ?_ _ | with_reducible refine W_int.mk ?_ | assumption)); done)); (next => ((repeat' (first | dsimp only [ZD, ZE, ZH, ZI, ZV] | with_reducible assumption | with_reducible exact wrI _ | (unfold I64; constructor <;> omega) | omega | (simp only [List.length_set, List.length_append, List.length_cons, List.length_nil, List.length_take, List.length_drop]; omega) | with_reducible refine LW.set' ?_ _ ?_ | with_reducible refine LW.snoc ?_ ?_ ?_ | with_reducible refine LW.takeL ?_ _ | with_reducible refine LW.dropL ?_ _ | with_reducible refine W_int.mk ?_ | assumption)); done)); (next => ((repeat' (first | dsimp only [ZD, ZE, ZH, ZI, ZV] | with_reducible assumption | with_reducible exact wrI _ | (unfold I64; constructor <;> omega) | omega | (simp only [List.length_set, List.length_append, List.length_cons, List.length_nil, List.length_take, List.length_drop]; omega) | with_reducible refine LW.set' ?_ _ ?_ | with_reducible refine LW.snoc ?_ ?_ ?_ | with_reducible refine LW.takeL ?_ _ | with_reducible refine LW.dropL ?_ _ | with_reducible refine W_int.mk ?_ | assumption)); done)); (next => ((repeat' (first | dsimp only [ZD, ZE, ZH, ZI, ZV] | with_reducible assumption | with_reducible exact wrI _ | (unfold I64; constructor <;> omega) | omega | (simp only [List.length_set, List.length_append, List.length_cons, List.length_nil, List.length_take, List.length_drop]; omega) | with_reducible refine LW.set' ?_ _ ?_ | with_reducible refine LW.snoc ?_ ?_ ?_ | with_reducible refine LW.takeL ?_ _ | with_reducible refine LW.dropL ?_ _ | with_reducible refine W_int.mk ?_ | assumption)); done)); (next => ((repeat' (first | dsimp only [ZD, ZE, ZH, ZI, ZV] | with_reducible assumption | with_reducible exact wrI _ | (unfold I64; constructor <;> omega) | omega | (simp only [List.length_set, List.length_append, List.length_cons, List.length_nil, List.length_take, List.length_drop]; omega) | with_reducible refine LW.set' ?_ _ ?_ | with_reducible refine LW.snoc ?_ ?_ ?_ | with_reducible refine LW.takeL ?_ _ | with_reducible refine LW.dropL ?_ _ | with_reducible refine W_int.mk ?_ | assumption)); done)); (next => ((repeat' (first | dsimp only [ZD, ZE, ZH, ZI, ZV] | with_reducible assumption | with_reducible exact wrI _ | (unfold I64; constructor <;> omega) | omega | (simp only [List.length_set, List.length_append, List.length_cons, List.length_nil, List.length_take, List.length_drop]; omega) | with_reducible refine LW.set' ?_ _ ?_ | with_reducible refine LW.snoc ?_ ?_ ?_ | with_reducible refine LW.takeL ?_ _ | with_reducible refine LW.dropL ?_ _ | with_reducible refine W_int.mk ?_ | assumption)); done)); (next => ((repeat' (first | dsimp only [ZD, ZE, ZH, ZI, ZV] | with_reducible assumption | with_reducible exact wrI _ | (unfold I64; constructor <;> omega) | omega | (simp only [List.length_set, List.length_append, List.length_cons, List.length_nil, List.length_take, List.length_drop]; omega) | with_reducible refine LW.set' ?_ _ ?_ | with_reducible refine LW.snoc ?_ ?_ ?_ | with_reducible refine LW.takeL ?_ _ | with_reducible refine LW.dropL ?_ _ | with_reducible refine W_int.mk ?_ | assumption)); done)); (next => ((repeat' (first | dsimp only [ZD, ZE, ZH, ZI, ZV] | with_reducible assumption | with_reducible exact wrI _ | (unfold I64; constructor <;> omega) | omega | (simp only [List.length_set, List.length_append, List.length_cons, List.length_nil, List.length_take, List.length_drop]; omega) | with_reducible refine LW.set' ?_ _ ?_ | with_reducible refine LW.snoc ?_ ?_ ?_ | with_reducible refine LW.takeL ?_ _ | with_reducible refine LW.dropL ?_ _ | with_reducible refine W_int.mk ?_ | assumption)); done)); (next => ((repeat' (first | dsimp only [ZD, ZE, ZH, ZI, ZV] | with_reducible assumption | with_reducible exact wrI _ | (unfold I64; constructor <;> omega) | omega | (simp only [List.length_set, List.length_append, List.length_cons, List.length_nil, List.length_take, List.length_drop]; omega) | with_reducible refine LW.set' ?_ _ ?_ | with_reducible refine LW.snoc ?_ ?_ ?_ | with_reducible refine LW.takeL ?_ _ | with_reducible refine LW.dropL ?_ _ | with_reducible refine W_int.mk ?_ | assumption)); done)); (next => ((repeat' (first | dsimp only [ZD, ZE, ZH, ZI, ZV] | with_reducible assumption | with_reducible exact wrI _ | (unfold I64; constructor <;> omega) | omega | (simp only [List.length_set, List.length_append, List.length_cons, List.length_nil, List.length_take, List.length_drop]; omega) | with_reducible refine LW.set' ?_ _ ?_ | with_reducible refine LW.snoc ?_ ?_ ?_ | with_reducible refine LW.takeL ?_ _ | with_reducible refine LW.dropL ?_ _ | with_reducible refine W_int.mk ?_ | assumption)); done)); (next => ((repeat' (first | dsimp only [ZD, ZE, ZH, ZI, ZV] | with_reducible assumption | with_reducible exact wrI _ | (unfold I64; constructor <;> omega) | omega | (simp only [List.length_set, List.length_append, List.length_cons, List.length_nil, List.length_take, List.length_drop]; omega) | with_reducible refine LW.set' ?_ _ ?_ | with_reducible refine LW.snoc ?_ ?_ ?_ | with_reducible refine LW.takeL ?_ _ | with_reducible refine LW.dropL ?_ _ | with_reducible refine W_int.mk ?_ | assumption)); done)); (next => ((repeat' (first | dsimp only [ZD, ZE, ZH, ZI, ZV] | with_reducible assumption | with_reducible exact wrI _ | (unfold I64; constructor <;> omega) | omega | (simp only [List.length_set, List.length_append, List.length_cons, List.length_nil, List.length_take, List.length_drop]; omega) | with_reducible refine LW.set' ?_ _ ?_ | with_reducible refine LW.snoc ?_ ?_ ?_ | with_reducible refine LW.takeL ?_ _ | with_reducible refine LW.dropL ?_ _ | with_reducible refine W_int.mk ?_ | assumption)); done)); (next => ((repeat' (first | dsimp only [ZD, ZE, ZH, ZI, ZV] | with_reducible assumption | with_reducible exact wrI _ | (unfold I64; constructor <;> omega) | omega | (simp only [List.length_set, List.length_append, List.length_cons, List.length_nil, List.length_take, List.length_drop]; omega) | with_reducible refine LW.set' ?_ _ ?_ | with_reducible refine LW.snoc ?_ ?_ ?_ | with_reducible refine LW.takeL ?_ _ | with_reducible refine LW.dropL ?_ _ | with_reducible refine W_int.mk ?_ | assumption)); done)); rintro _ ⟨_, _, _, _, _, _, _, _, _, _, _, _, _, _, _⟩)) | (((with_reducible refine Ok.bind2 (node_O (by assumption) (by assumption) (by assumption)) ?_); rintro _ _ ⟨_, ⟨_, _, _, _, _, _, _, _, _, _, _, _, _, _⟩, _, _⟩)) | (((with_reducible refine Ok.bind2 (drawItem_O (by assumption) ?_) ?_); (next => first | assumption | with_reducible exact wrI _ | ((unfold I64; constructor <;> omega))); rintro _ _ ⟨_, _⟩)) | (((with_reducible refine Ok.bind2 (pick_P (by assumption) ?_ ?_) ?_); (next => exact Nat.succ_pos _); (next => repeat' (first | trivial | ((repeat' (first | dsimp only [ZD, ZE, ZH, ZI, ZV] | with_reducible assumption | with_reducible exact wrI _ | (unfold I64; constructor <;> omega) | omega | (simp only [List.length_set, List.length_append, List.length_cons, List.length_nil, List.length_take, List.length_drop]; omega) | with_reducible refine LW.set' ?_ _ ?_ | with_reducible refine LW.snoc ?_ ?_ ?_ | with_reducible refine LW.takeL ?_ _ | with_reducible refine LW.dropL ?_ _ | with_reducible refine W_int.mk ?_ | assumption)); done) | refine And.intro ?_ ?_)); rintro _ _ ⟨_, _⟩)) | (((with_reducible refine Ok.bind2 (once_P (by assumption) _) ?_); rintro _ _ _)) | (((with_reducible refine Ok.bind2 (ZcT (by assumption) _) ?_); rintro _ _ ⟨_, _, _, _⟩))) | with_reducible refine Ok.ret ?_))))
  all_goals (refine ⟨by assumption, ?_, ?_, ?_, ?_, ?_, ?_, ?_, ?_, ?_, ?_, ?_, ?_, ?_, ?_⟩ <;> first | ((repeat' (first | dsimp only [ZD, ZE, ZH, ZI, ZV] | with_reducible assumption | with_reducible exact wrI _ | (unfold I64; constructor <;> omega) | omega | (simp only [List.length_set, List.length_append, List.length_cons, List.length_nil]; omega) | with_reducible refine LW.set' ?_ _ ?_ | with_reducible refine LW.snoc ?_ ?_ ?_ | with_reducible refine LW.takeL ?_ _ | with_reducible refine LW.dropL ?_ _ | with_reducible refine W_int.mk ?_ | assumption)); done) | exact Nat.le_trans (by assumption) (by decide : 5 ≤ 10) | exact Nat.le_trans (by assumption) (by decide : 396 + 5 ≤ 396 + 10) | (refine LW.snoc ?_ ?_ ?_ <;> ((repeat' (first | dsimp only [ZD, ZE, ZH, ZI, ZV] | with_reducible assumption | with_reducible exact wrI _ | (unfold I64; constructor <;> omega) | omega | (simp only [List.length_set, List.length_append, List.length_cons, List.length_nil, List.length_take, List.length_drop]; omega) | with_reducible refine LW.set' ?_ _ ?_ | with_reducible refine LW.snoc ?_ ?_ ?_ | with_reducible refine LW.takeL ?_ _ | with_reducible refine LW.dropL ?_ _ | with_reducible refine W_int.mk ?_ | assumption)); done)) | skip)
end Go.Eng.R
open Go Go.Eng
namespace Go.Eng.R
set_option maxRecDepth 100000
def B_Msg (m : Nat) (x : V) : Prop := I64 (gi x 0) ∧ I64 (gi x 1) ∧ I64 (gi x 2) ∧ I64 (gi x 3) ∧ I64 (gi x 4) ∧ I64 (gi x 5) ∧ LW B_Item (gl x 6) ∧ (gl x 6).length ≤ m ∧ I64 (gi x 7)
theorem msg_loop {n4 : Int} (hn : n4 ≤ 5) (r3 : List V) : ∀ (k : Nat) (t i : Int) (b b1 b2 : V) (l : List V), ZM b → 0 ≤ i → (n4 - i).toNat < k → i ≤ n4 → I64 t → LW B_Item l → (l.length : Int) = i →
    I64 (gi b2 0) → I64 (gi b2 1) → I64 (gi b2 2) → I64 (gi b2 3) → I64 (gi b2 4) → I64 (gi b2 5) → I64 (gi b2 7) →
    Ok (fun r => ZM r.1 ∧ I64 (gi r.2.2.1 0) ∧ I64 (gi r.2.2.1 1) ∧ I64 (gi r.2.2.1 2) ∧ I64 (gi r.2.2.1 3) ∧ I64 (gi r.2.2.1 4) ∧ I64 (gi r.2.2.1 5) ∧ I64 (gi r.2.2.1 7) ∧ LW B_Item r.2.2.2.2 ∧ r.2.2.2.2.length ≤ 5)
      (Zar k n4 t i (Za b) b1 b2 r3 l)
  | 0, _, _, _, _, _, _, _, _, h, _, _, _, _, _, _, _, _, _, _, _ => by omega
  | k + 1, t, i, b, b1, b2, l, hb, i0, hk, i1, ht, hl, hli, p0, p1, p2, p3, p4, p5, p7 => by
    have hb' : ZM (Za b) := hb
    have hw : i < n4 → IntKind.i64.wrap (i + 1) = i + 1 := fun _ => ZW (by omega) (by omega)
    unfold Zar
    ((repeat' (((with_reducible refine (id ?_ : Ok _ _)); first | (with_reducible refine Ok.chk (by (first | (refine Zcm ?_ ?_ <;> (try simp only [List.length_set, List.length_append, List.length_cons, List.length_nil, List.length_replicate, Nat.zero_add]) <;> omega) | (refine ZbU ?_ ?_ <;> (try simp only [List.length_set, List.length_append, List.length_cons, List.length_nil, List.length_replicate, Nat.zero_add]) <;> omega) | assumption | (simp; done) | (simp; omega))) ?_) | ((with_reducible refine Ok.iteT ?_ ?_); (next => first | exact decide_eq_true (by with_reducible rfl) | (refine congrArg not (decide_eq_false ?_); intro h; revert h; dsimp only; decide))) | ((with_reducible refine Ok.iteF ?_ ?_); (next => first | (refine decide_eq_false ?_; intro h; revert h; dsimp only; decide) | exact congrArg not (decide_eq_true (by with_reducible rfl)))) | (with_reducible refine Ok.ite (fun _ => ?_) (fun _ => ?_) <;> (rename_i h; try simp only [decide_eq_true_eq, decide_eq_false_iff_not, Int.not_lt] at h)) | (first | (((with_reducible refine Ok.bind2 (drawItem_O (by assumption) ?_) ?_); (next => first | assumption | with_reducible exact wrI _ | ((unfold I64; constructor <;> omega))); rintro _ _ ⟨_, _⟩)) | (((with_reducible refine Ok.bind2 (once_P (by assumption) _) ?_); rintro _ _ _))) | with_reducible refine Ok.ret ?_))))
    · refine msg_loop hn r3 k _ _ _ _ _ _ (by assumption) ?_ ?_ ?_ (wrI _) (LW.snoc hl (by omega) (by assumption)) ?_ p0 p1 p2 p3 p4 p5 p7 <;> (rw [hw (by assumption)]; try simp only [List.length_append, List.length_cons, List.length_nil]) <;> omega
    · refine msg_loop hn r3 k _ _ _ _ _ _ (by assumption) ?_ ?_ ?_ ht (LW.snoc hl (by omega) (by assumption)) ?_ p0 p1 p2 p3 p4 p5 p7 <;> (rw [hw (by assumption)]; try simp only [List.length_append, List.length_cons, List.length_nil]) <;> omega
    · refine msg_loop hn r3 k _ _ _ _ _ _ (by assumption) ?_ ?_ ?_ ht (LW.snoc hl (by omega) (by assumption)) ?_ p0 p1 p2 p3 p4 p5 p7 <;> (rw [hw (by assumption)]; try simp only [List.length_append, List.length_cons, List.length_nil]) <;> omega
    · exact ⟨hb, p0, p1, p2, p3, p4, p5, p7, hl, by show l.length ≤ 5; omega⟩
theorem tmI (a : Int) : I64 ((IntKind.i64.wrap a).tmod 3) := by
  have h := wrI a
  unfold I64 at *
  have h1 := Int.tmod_lt_of_pos (IntKind.i64.wrap a) (b := 3) (by decide)
  have h2 : -3 < (IntKind.i64.wrap a).tmod 3 := Int.lt_tmod_of_pos _ (by decide)
  omega
set_option maxHeartbeats 2000000 in
theorem mdraw_O {c : V} (h : ZM c) : Ok2 (fun m c => ZM c ∧ B_Msg 5 m) (Zd8 (Za c)) := by
  unfold Zd8
  refine .of ?_
  have h' : ZM (Za c) := h
  ((repeat' (((with_reducible refine (id ?_ : Ok _ _)); first | (with_reducible refine Ok.chk (by (first | (refine Zcm ?_ ?_ <;> (try simp only [List.length_set, List.length_append, List.length_cons, List.length_nil, List.length_replicate, Nat.zero_add]) <;> omega) | (refine ZbU ?_ ?_ <;> (try simp only [List.length_set, List.length_append, List.length_cons, List.length_nil, List.length_replicate, Nat.zero_add]) <;> omega) | assumption | (simp; done) | (simp; omega))) ?_) | ((with_reducible refine Ok.iteT ?_ ?_); (next => first | exact decide_eq_true (by with_reducible rfl) | (refine congrArg not (decide_eq_false ?_); intro h; revert h; dsimp only; decide))) | ((with_reducible refine Ok.iteF ?_ ?_); (next => first | (refine decide_eq_false ?_; intro h; revert h; dsimp only; decide) | exact congrArg not (decide_eq_true (by with_reducible rfl)))) | (with_reducible refine Ok.ite (fun _ => ?_) (fun _ => ?_) <;> (rename_i h; try simp only [decide_eq_true_eq, decide_eq_false_iff_not, Int.not_lt] at h)) | (first | (((with_reducible refine Ok.bind (msg_loop ?_ _ _ _ _ _ _ _ _ (by assumption) ?_ ?_ ?_ ?_ ?_ ?_ ?_ ?_ ?_ ?_ ?_ ?_ ?_) ?_); (next => ((repeat' (first | dsimp only [ZD, ZE, ZH, ZI, ZV] | with_reducible assumption | with_reducible exact wrI _ | (unfold I64; constructor <;> omega) | with_reducible exact tmI _ | with_reducible exact LW.nil | omega | (simp only [List.length_set, List.length_append, List.length_cons, List.length_nil, List.length_take, List.length_drop]; omega) | with_reducible refine LW.set' ?_ _ ?_ | with_reducible refine LW.snoc ?_ ?_ ?_ | with_reducible refine LW.takeL ?_ _ | with_reducible refine LW.dropL ?_ _ | with_reducible refine W_int.mk ?_ | assumption)); done)); (next => ((repeat' (first | dsimp only [ZD, ZE, ZH, ZI, ZV] | with_reducible assumption | with_reducible exact wrI _ | (unfold I64; constructor <;> omega) | with_reducible exact tmI _ | with_reducible exact LW.nil | omega | (simp only [List.length_set, List.length_append, List.length_cons, List.length_nil, List.length_take, List.length_drop]; omega) | with_reducible refine LW.set' ?_ _ ?_ | with_reducible refine LW.snoc ?_ ?_ ?_ | with_reducible refine LW.takeL ?_ _ | with_reducible refine LW.dropL ?_ _ | with_reducible refine W_int.mk ?_ | assumption)); done)); (next => ((repeat' (first | dsimp only [ZD, ZE, ZH, ZI, ZV] | with_reducible assumption | with_reducible exact wrI _ | (unfold I64; constructor <;> omega) | with_reducible exact tmI _ | with_reducible exact LW.nil | omega | (simp only [List.length_set, List.length_append, List.length_cons, List.length_nil, List.length_take, List.length_drop]; omega) | with_reducible refine LW.set' ?_ _ ?_ | with_reducible refine LW.snoc ?_ ?_ ?_ | with_reducible refine LW.takeL ?_ _ | with_reducible refine LW.dropL ?_ _ | with_reducible refine W_int.mk ?_ | assumption)); done)); (next => ((repeat' (first | dsimp only [ZD, ZE, ZH, ZI, ZV] | with_reducible assumption | with_reducible exact wrI _ | (unfold I64; constructor <;> omega) | with_reducible exact tmI _ | with_reducible exact LW.nil | omega | (simp only [List.length_set, List.length_append, List.length_cons, List.length_nil, List.length_take, List.length_drop]; omega) | with_reducible refine LW.set' ?_ _ ?_ | with_reducible refine LW.snoc ?_ ?_ ?_ | with_reducible refine LW.takeL ?_ _ | with_reducible refine LW.dropL ?_ _ | with_reducible refine W_int.mk ?_ | assumption)); done)); (next => ((repeat' (first | dsimp only [ZD, ZE, ZH, ZI, ZV] | with_reducible assumption | with_reducible exact wrI _ | (unfold I64; constructor <;> omega) | with_reducible exact tmI _ | with_reducible exact LW.nil | omega | (simp only [List.length_set, List.length_append, List.length_cons, List.length_nil, List.length_take, List.length_drop]; omega) | with_reducible refine LW.set' ?_ _ ?_ | with_reducible refine LW.snoc ?_ ?_ ?_ | with_reducible refine LW.takeL ?_ _ | with_reducible refine LW.dropL ?_ _ | with_reducible refine W_int.mk ?_ | assumption)); done)); (next => ((repeat' (first | dsimp only [ZD, ZE, ZH, ZI, ZV] | with_reducible assumption | with_reducible exact wrI _ | (unfold I64; constructor <;> omega) | with_reducible exact tmI _ | with_reducible exact LW.nil | omega | (simp only [List.length_set, List.length_append, List.length_cons, List.length_nil, List.length_take, List.length_drop]; omega) | with_reducible refine LW.set' ?_ _ ?_ | with_reducible refine LW.snoc ?_ ?_ ?_ | with_reducible refine LW.takeL ?_ _ | with_reducible refine LW.dropL ?_ _ | with_reducible refine W_int.mk ?_ | assumption)); done)); (next => ((repeat' (first | dsimp only [ZD, ZE, ZH, ZI, ZV] | with_reducible assumption | with_reducible exact wrI _ | (unfold I64; constructor <;> omega) | with_reducible exact tmI _ | with_reducible exact LW.nil | omega | (simp only [List.length_nil]; omega) | with_reducible refine LW.set' ?_ _ ?_ | with_reducible refine LW.snoc ?_ ?_ ?_ | with_reducible refine LW.takeL ?_ _ | with_reducible refine LW.dropL ?_ _ | with_reducible refine W_int.mk ?_ | assumption)); done)); (next => ((repeat' (first | dsimp only [ZD, ZE, ZH, ZI, ZV] | with_reducible assumption | with_reducible exact wrI _ | (unfold I64; constructor <;> omega) | with_reducible exact tmI _ | with_reducible exact LW.nil | omega | (simp only [List.length_set, List.length_append, List.length_cons, List.length_nil, List.length_take, List.length_drop]; omega) | with_reducible refine LW.set' ?_ _ ?_ | with_reducible refine LW.snoc ?_ ?_ ?_ | with_reducible refine LW.takeL ?_ _ | with_reducible refine LW.dropL ?_ _ | with_reducible refine W_int.mk ?_ | assumption)); done)); (next => ((repeat' (first | dsimp only [ZD, ZE, ZH, ZI, ZV] | with_reducible assumption | with_reducible exact wrI _ | (unfold I64; constructor <;> omega) | with_reducible exact tmI _ | with_reducible exact LW.nil | omega | (simp only [List.length_set, List.length_append, List.length_cons, List.length_nil, List.length_take, List.length_drop]; omega) | with_reducible refine LW.set' ?_ _ ?_ | with_reducible refine LW.snoc ?_ ?_ ?_ | with_reducible refine LW.takeL ?_ _ | with_reducible refine LW.dropL ?_ _ | with_reducible refine W_int.mk ?_ | assumption)); done)); (next => ((repeat' (first | dsimp only [ZD, ZE, ZH, ZI, ZV] | with_reducible assumption | with_reducible exact wrI _ | (unfold I64; constructor <;> omega) | with_reducible exact tmI _ | with_reducible exact LW.nil | omega | (simp only [List.length_set, List.length_append, List.length_cons, List.length_nil, List.length_take, List.length_drop]; omega) | with_reducible refine LW.set' ?_ _ ?_ | with_reducible refine LW.snoc ?_ ?_ ?_ | with_reducible refine LW.takeL ?_ _ | with_reducible refine LW.dropL ?_ _ | with_reducible refine W_int.mk ?_ | assumption)); done)); (next => ((repeat' (first | dsimp only [ZD, ZE, ZH, ZI, ZV] | with_reducible assumption | with_reducible exact wrI _ | (unfold I64; constructor <;> omega) | with_reducible exact tmI _ | with_reducible exact LW.nil | omega | (simp only [List.length_set, List.length_append, List.length_cons, List.length_nil, List.length_take, List.length_drop]; omega) | with_reducible refine LW.set' ?_ _ ?_ | with_reducible refine LW.snoc ?_ ?_ ?_ | with_reducible refine LW.takeL ?_ _ | with_reducible refine LW.dropL ?_ _ | with_reducible refine W_int.mk ?_ | assumption)); done)); (next => ((repeat' (first | dsimp only [ZD, ZE, ZH, ZI, ZV] | with_reducible assumption | with_reducible exact wrI _ | (unfold I64; constructor <;> omega) | with_reducible exact tmI _ | with_reducible exact LW.nil | omega | (simp only [List.length_set, List.length_append, List.length_cons, List.length_nil, List.length_take, List.length_drop]; omega) | with_reducible refine LW.set' ?_ _ ?_ | with_reducible refine LW.snoc ?_ ?_ ?_ | with_reducible refine LW.takeL ?_ _ | with_reducible refine LW.dropL ?_ _ | with_reducible refine W_int.mk ?_ | assumption)); done)); (next => ((repeat' (first | dsimp only [ZD, ZE, ZH, ZI, ZV] | with_reducible assumption | with_reducible exact wrI _ | (unfold I64; constructor <;> omega) | with_reducible exact tmI _ | with_reducible exact LW.nil | omega | (simp only [List.length_set, List.length_append, List.length_cons, List.length_nil, List.length_take, List.length_drop]; omega) | with_reducible refine LW.set' ?_ _ ?_ | with_reducible refine LW.snoc ?_ ?_ ?_ | with_reducible refine LW.takeL ?_ _ | with_reducible refine LW.dropL ?_ _ | with_reducible refine W_int.mk ?_ | assumption)); done)); (next => ((repeat' (first | dsimp only [ZD, ZE, ZH, ZI, ZV] | with_reducible assumption | with_reducible exact wrI _ | (unfold I64; constructor <;> omega) | with_reducible exact tmI _ | with_reducible exact LW.nil | omega | (simp only [List.length_set, List.length_append, List.length_cons, List.length_nil, List.length_take, List.length_drop]; omega) | with_reducible refine LW.set' ?_ _ ?_ | with_reducible refine LW.snoc ?_ ?_ ?_ | with_reducible refine LW.takeL ?_ _ | with_reducible refine LW.dropL ?_ _ | with_reducible refine W_int.mk ?_ | assumption)); done)); rintro _ ⟨_, _, _, _, _, _, _, _, _, _⟩)) | (((with_reducible refine Ok.bind2 (once_P (by assumption) _) ?_); rintro _ _ _)) | (((with_reducible refine Ok.bind2 (ZcT (by assumption) _) ?_); rintro _ _ ⟨_, _, _, _⟩))) | with_reducible refine Ok.ret ?_))))
  all_goals (refine ⟨by assumption, ?_, ?_, ?_, ?_, ?_, ?_, ?_, ?_, ?_⟩ <;> first | ((repeat' (first | dsimp only [ZD, ZE, ZH, ZI, ZV] | with_reducible assumption | with_reducible exact wrI _ | (unfold I64; constructor <;> omega) | with_reducible exact tmI _ | with_reducible exact LW.nil | omega | (simp only [List.length_nil]; omega) | with_reducible refine LW.set' ?_ _ ?_ | with_reducible refine LW.snoc ?_ ?_ ?_ | with_reducible refine LW.takeL ?_ _ | with_reducible refine LW.dropL ?_ _ | with_reducible refine W_int.mk ?_ | assumption)); done) | skip)
end Go.Eng.R
open Go Go.Eng
namespace Go.Eng.R
set_option maxRecDepth 100000
set_option maxHeartbeats 2000000 in
theorem mbent_O {c : V} (h : ZM c) : Ok2 (fun m c => ZM c ∧ B_Msg 6 m) (Zd9 (Za c)) := by
  unfold Zd9
  refine .of ?_
  have h' : ZM (Za c) := h
  ((repeat' (((with_reducible refine (id ?_ : Ok _ _)); first | (with_reducible refine Ok.chk (by (first | (refine Zcm ?_ ?_ <;> (try simp only [List.length_set, List.length_append, List.length_cons, List.length_nil, List.length_replicate, Nat.zero_add]) <;> omega) | (refine ZbU ?_ ?_ <;> (try simp only) <;> omega) | assumption | (simp; done) | (simp; omega))) ?_) | ((with_reducible refine Ok.iteT ?_ ?_); (next => first | exact decide_eq_true (by with_reducible rfl) | (refine congrArg not (decide_eq_false ?_); intro h; revert h; dsimp only; decide))) | ((with_reducible refine Ok.iteF ?_ ?_); (next => first | (refine decide_eq_false ?_; intro h; revert h; dsimp only; decide) | exact congrArg not (decide_eq_true (by with_reducible rfl)))) | (with_reducible refine Ok.ite (fun _ => ?_) (fun _ => ?_) <;> (rename_i h; try simp only [decide_eq_true_eq, decide_eq_false_iff_not, Bool.not_eq_true', Bool.not_eq_false'] at h)) | (first | (((with_reducible refine Ok.bind2 (mdraw_O (by assumption)) ?_); rintro _ _ ⟨_, _, _, _, _, _, _, _, _, _⟩)) | (((with_reducible refine Ok.bind2 (drawItem_O (by assumption) ?_) ?_); (next => first | assumption | with_reducible exact wrI _ | ((unfold I64; constructor <;> omega))); rintro _ _ ⟨_, _⟩)) | (((with_reducible refine Ok.bind2 (pick_P (by assumption) ?_ ?_) ?_); (next => exact Nat.succ_pos _); (next => repeat' (first | trivial | ((repeat' (first | dsimp only [ZD, ZE, ZH, ZI, ZV] | with_reducible assumption | with_reducible exact wrI _ | (unfold I64; constructor <;> omega) | with_reducible exact tmI _ | with_reducible exact LW.nil | omega | (simp only [List.length_set, List.length_append, List.length_cons, List.length_nil, List.length_take, List.length_drop]; omega) | with_reducible refine LW.set' ?_ _ ?_ | with_reducible refine LW.snoc ?_ ?_ ?_ | with_reducible refine LW.takeL ?_ _ | with_reducible refine LW.dropL ?_ _ | with_reducible refine W_int.mk ?_ | assumption)); done) | refine And.intro ?_ ?_)); rintro _ _ ⟨_, _⟩)) | (((with_reducible refine Ok.bind2 (once_P (by assumption) _) ?_); rintro _ _ _)) | (((with_reducible refine Ok.bind2 (ZcT (by assumption) _) ?_); rintro _ _ ⟨_, _, _, _⟩))) | with_reducible refine Ok.ret ?_))))
  all_goals (refine ⟨by assumption, ?_, ?_, ?_, ?_, ?_, ?_, ?_, ?_, ?_⟩ <;> first | ((repeat' (first | dsimp only [ZD, ZE, ZH, ZI, ZV] | with_reducible assumption | with_reducible exact wrI _ | (unfold I64; constructor <;> omega) | with_reducible exact tmI _ | with_reducible exact LW.nil | omega | (simp only [List.length_append, List.length_cons, List.length_nil]; omega) | with_reducible refine LW.set' ?_ _ ?_ | with_reducible refine LW.snoc ?_ ?_ ?_ | with_reducible refine LW.takeL ?_ _ | with_reducible refine LW.dropL ?_ _ | with_reducible refine W_int.mk ?_ | assumption)); done) | exact Nat.le_trans (by assumption) (by decide : 5 ≤ 6) | (refine LW.snoc ?_ ?_ ?_ <;> ((repeat' (first | dsimp only [ZD, ZE, ZH, ZI, ZV] | with_reducible assumption | with_reducible exact wrI _ | (unfold I64; constructor <;> omega) | with_reducible exact tmI _ | with_reducible exact LW.nil | omega | (simp only [List.length_set, List.length_append, List.length_cons, List.length_nil, List.length_take, List.length_drop]; omega) | with_reducible refine LW.set' ?_ _ ?_ | with_reducible refine LW.snoc ?_ ?_ ?_ | with_reducible refine LW.takeL ?_ _ | with_reducible refine LW.dropL ?_ _ | with_reducible refine W_int.mk ?_ | assumption)); done)) | skip)
end Go.Eng.R
open Go Go.Eng
namespace Go.Eng.R
set_option maxRecDepth 100000
theorem B_Item.term {x : V} (h : B_Item x) {t : Int} (ht : I64 t) : B_Item (V.agg [(V.int .i64 t), (V.int .i64 (gi x 1)), (V.int .i64 (gi x 2)), (V.int .i64 (gi x 3)), (V.inl Zf (gl x 4)), (V.inl Zf (gl x 5)), (V.int .i64 (gi x 6))]) :=
  ⟨ht, h.2.1, h.2.2.1, h.2.2.2.1, h.2.2.2.2.1, h.2.2.2.2.2.1, h.2.2.2.2.2.2⟩
theorem hear13 {k6 : Int} (hk6 : I64 k6) (e0 e1 e2 e3 e4 l3 l8 l9 l10 : List V) (w3 : LW B_Item l3) (n3 : l3.length ≤ 406) (n8 : l8.length ≤ 10) (w9 : LW W_int l9) (n9 : l9.length ≤ 10) (w10 : LW W_int l10) (n10 : l10.length ≤ 10) : ∀ (k : Nat) (i : Int) (b0 b1 b2 b3 b4 : V) (l : List V), ZM b2 → 0 ≤ i → i ≤ (l.length : Int) → (l.length - i).toNat < k → l.length ≤ 6 → LW B_Item l → I64 (gi b3 0) → I64 (gi b3 1) → I64 (gi b3 2) → I64 (gi b3 4) → I64 (gi b3 5) → I64 (gi b3 6) → I64 (gi b3 7) → I64 (gi b4 0) → I64 (gi b4 1) → I64 (gi b4 2) → I64 (gi b4 3) → I64 (gi b4 4) → I64 (gi b4 5) → I64 (gi b4 7) → Ok (fun r => I64 r.1 ∧ ZM r.2.2.2.1 ∧ I64 (gi r.2.2.2.2.1 0) ∧ I64 (gi r.2.2.2.2.1 1) ∧ I64 (gi r.2.2.2.2.1 2) ∧ I64 (gi r.2.2.2.2.1 4) ∧ I64 (gi r.2.2.2.2.1 5) ∧ I64 (gi r.2.2.2.2.1 6) ∧ I64 (gi r.2.2.2.2.1 7) ∧ I64 (gi r.2.2.2.2.2.1 0) ∧ I64 (gi r.2.2.2.2.2.1 1) ∧ I64 (gi r.2.2.2.2.2.1 2) ∧ I64 (gi r.2.2.2.2.2.1 3) ∧ I64 (gi r.2.2.2.2.2.1 4) ∧ I64 (gi r.2.2.2.2.2.1 5) ∧ I64 (gi r.2.2.2.2.2.1 7) ∧ LW B_Item r.2.2.2.2.2.2.2.2.2.2.2.1 ∧ r.2.2.2.2.2.2.2.2.2.2.2.1.length ≤ 406 ∧ r.2.2.2.2.2.2.2.2.2.2.2.2.1.length ≤ 10 ∧ LW W_int r.2.2.2.2.2.2.2.2.2.2.2.2.2.1 ∧ r.2.2.2.2.2.2.2.2.2.2.2.2.2.1.length ≤ 10 ∧ LW W_int r.2.2.2.2.2.2.2.2.2.2.2.2.2.2.1 ∧ r.2.2.2.2.2.2.2.2.2.2.2.2.2.2.1.length ≤ 10 ∧ LW B_Item r.2.2.2.2.2.2.2.2.2.2.2.2.2.2.2 ∧ r.2.2.2.2.2.2.2.2.2.2.2.2.2.2.2.length ≤ 6) (ZaM k k6 i b0 b1 (Za b2) b3 b4 e0 e1 e2 e3 e4 l3 l8 l9 l10 l)
  | 0, _, _, _, _, _, _, _, _, _, _, h, _, _, _, _, _, _, _, _, _, _, _, _, _, _, _, _ => by omega
  | k + 1, i, b0, b1, b2, b3, b4, l, hc, i0, i1, hk, hl6, hl, p0, p1, p2, p4, p5, p6, p7, q0, q1, q2, q3, q4, q5, q7 => by
    have hw : i < (l.length : Int) → IntKind.i64.wrap (i + 1) = i + 1 := fun _ => ZW (by omega) (by omega)
    unfold ZaM
    ((repeat' (((with_reducible refine (id ?_ : Ok _ _)); first | (with_reducible refine Ok.chk (by (first | (refine Zcm ?_ ?_ <;> (try simp only [List.length_set, List.length_append, List.length_cons, List.length_nil, List.length_replicate, Nat.zero_add]) <;> omega) | (refine ZbU ?_ ?_ <;> (try simp only [List.length_set, List.length_append, List.length_cons, List.length_nil, List.length_replicate, Nat.zero_add]) <;> omega) | assumption | (simp; done) | (simp; omega))) ?_) | ((with_reducible refine Ok.iteT ?_ ?_); (next => first | exact decide_eq_true (by with_reducible rfl) | (refine congrArg not (decide_eq_false ?_); intro h; revert h; dsimp only; decide))) | ((with_reducible refine Ok.iteF ?_ ?_); (next => first | (refine decide_eq_false ?_; intro h; revert h; dsimp only; decide) | exact congrArg not (decide_eq_true (by with_reducible rfl)))) | (with_reducible refine Ok.ite (fun _ => ?_) (fun _ => ?_) <;> (rename_i h; try simp only [decide_eq_true_eq, decide_eq_false_iff_not, Int.not_lt] at h)) | fail | with_reducible refine Ok.ret ?_))))
    · refine hear13 hk6 e0 e1 e2 e3 e4 l3 l8 l9 l10 w3 n3 n8 w9 n9 w10 n10 k _ _ _ _ _ _ _ hc ?_ ?_ ?_ (by rw [List.length_set]; exact hl6) (LW.set' hl _ (B_Item.term (LW.rd hl (i := 0 + i.toNat) (by omega)) q3)) p0 p1 p2 p4 p5 p6 p7 q0 q1 q2 q3 q4 q5 q7 <;> (rw [hw (by assumption)]; try rw [List.length_set]) <;> omega
    · refine hear13 hk6 e0 e1 e2 e3 e4 l3 l8 l9 l10 w3 n3 n8 w9 n9 w10 n10 k _ _ _ _ _ _ _ hc ?_ ?_ ?_ hl6 hl p0 p1 p2 p4 p5 p6 p7 q0 q1 q2 q3 q4 q5 q7 <;> (rw [hw (by assumption)]; try rw [List.length_set]) <;> omega
    · exact ⟨hk6, hc, p0, p1, p2, p4, p5, p6, p7, q0, q1, q2, q3, q4, q5, q7, w3, n3, n8, w9, n9, w10, n10, hl, hl6⟩
theorem hear20 {k6 : Int} (hk6 : I64 k6) (e0 e1 e2 e3 e4 l3 l8 l9 l10 : List V) (w3 : LW B_Item l3) (n3 : l3.length ≤ 406) (n8 : l8.length ≤ 10) (w9 : LW W_int l9) (n9 : l9.length ≤ 10) (w10 : LW W_int l10) (n10 : l10.length ≤ 10) : ∀ (k : Nat) (i : Int) (b0 b1 b2 b3 : V) (l : List V), 0 ≤ i → i ≤ (l.length : Int) → (l.length - i).toNat < k → l.length ≤ 6 → LW B_Item l → I64 (gi b2 0) → I64 (gi b2 1) → I64 (gi b2 2) → I64 (gi b2 4) → I64 (gi b2 5) → I64 (gi b2 6) → I64 (gi b2 7) → I64 (gi b3 0) → I64 (gi b3 1) → I64 (gi b3 2) → I64 (gi b3 3) → I64 (gi b3 4) → I64 (gi b3 5) → I64 (gi b3 7) → Ok (fun r => I64 r.1 ∧ I64 (gi r.2.2.2.1 0) ∧ I64 (gi r.2.2.2.1 1) ∧ I64 (gi r.2.2.2.1 2) ∧ I64 (gi r.2.2.2.1 4) ∧ I64 (gi r.2.2.2.1 5) ∧ I64 (gi r.2.2.2.1 6) ∧ I64 (gi r.2.2.2.1 7) ∧ I64 (gi r.2.2.2.2.1 0) ∧ I64 (gi r.2.2.2.2.1 1) ∧ I64 (gi r.2.2.2.2.1 2) ∧ I64 (gi r.2.2.2.2.1 3) ∧ I64 (gi r.2.2.2.2.1 4) ∧ I64 (gi r.2.2.2.2.1 5) ∧ I64 (gi r.2.2.2.2.1 7) ∧ LW B_Item r.2.2.2.2.2.2.2.2.2.2.1 ∧ r.2.2.2.2.2.2.2.2.2.2.1.length ≤ 406 ∧ r.2.2.2.2.2.2.2.2.2.2.2.1.length ≤ 10 ∧ LW W_int r.2.2.2.2.2.2.2.2.2.2.2.2.1 ∧ r.2.2.2.2.2.2.2.2.2.2.2.2.1.length ≤ 10 ∧ LW W_int r.2.2.2.2.2.2.2.2.2.2.2.2.2.1 ∧ r.2.2.2.2.2.2.2.2.2.2.2.2.2.1.length ≤ 10 ∧ LW B_Item r.2.2.2.2.2.2.2.2.2.2.2.2.2.2 ∧ r.2.2.2.2.2.2.2.2.2.2.2.2.2.2.length ≤ 6) (ZaX k k6 i b0 b1 b2 b3 e0 e1 e2 e3 e4 l3 l8 l9 l10 l)
  | 0, _, _, _, _, _, _, _, _, h, _, _, _, _, _, _, _, _, _, _, _, _, _, _, _, _ => by omega
  | k + 1, i, b0, b1, b2, b3, l, i0, i1, hk, hl6, hl, p0, p1, p2, p4, p5, p6, p7, q0, q1, q2, q3, q4, q5, q7 => by
    have hw : i < (l.length : Int) → IntKind.i64.wrap (i + 1) = i + 1 := fun _ => ZW (by omega) (by omega)
    unfold ZaX
    ((repeat' (((with_reducible refine (id ?_ : Ok _ _)); first | (with_reducible refine Ok.chk (by (first | (refine Zcm ?_ ?_ <;> (try simp only [List.length_set, List.length_append, List.length_cons, List.length_nil, List.length_replicate, Nat.zero_add]) <;> omega) | (refine ZbU ?_ ?_ <;> (try simp only [List.length_set, List.length_append, List.length_cons, List.length_nil, List.length_replicate, Nat.zero_add]) <;> omega) | assumption | (simp; done) | (simp; omega))) ?_) | ((with_reducible refine Ok.iteT ?_ ?_); (next => first | exact decide_eq_true (by with_reducible rfl) | (refine congrArg not (decide_eq_false ?_); intro h; revert h; dsimp only; decide))) | ((with_reducible refine Ok.iteF ?_ ?_); (next => first | (refine decide_eq_false ?_; intro h; revert h; dsimp only; decide) | exact congrArg not (decide_eq_true (by with_reducible rfl)))) | (with_reducible refine Ok.ite (fun _ => ?_) (fun _ => ?_) <;> (rename_i h; try simp only [decide_eq_true_eq, decide_eq_false_iff_not, Int.not_lt] at h)) | fail | with_reducible refine Ok.ret ?_))))
    · refine hear20 hk6 e0 e1 e2 e3 e4 l3 l8 l9 l10 w3 n3 n8 w9 n9 w10 n10 k _ _ _ _ _ _ ?_ ?_ ?_ (by rw [List.length_set]; exact hl6) (LW.set' hl _ (B_Item.term (LW.rd hl (i := 0 + i.toNat) (by omega)) q5)) p0 p1 p2 p4 p5 p6 p7 q0 q1 q2 q3 q4 q5 q7 <;> (rw [hw (by assumption)]; try rw [List.length_set]) <;> omega
    · refine hear20 hk6 e0 e1 e2 e3 e4 l3 l8 l9 l10 w3 n3 n8 w9 n9 w10 n10 k _ _ _ _ _ _ ?_ ?_ ?_ hl6 hl p0 p1 p2 p4 p5 p6 p7 q0 q1 q2 q3 q4 q5 q7 <;> (rw [hw (by assumption)]; try rw [List.length_set]) <;> omega
    · exact ⟨hk6, p0, p1, p2, p4, p5, p6, p7, q0, q1, q2, q3, q4, q5, q7, w3, n3, n8, w9, n9, w10, n10, hl, hl6⟩
end Go.Eng.R
open Go Go.Eng
namespace Go.Eng.R
set_option maxRecDepth 100000
theorem tmJ {a : Int} (h : I64 a) (b : Int) : I64 (a.tmod b) := by
  have h1 : (a.tmod b).natAbs ≤ a.natAbs := by rw [Int.natAbs_tmod]; exact Nat.mod_le _ _
  unfold I64 at *
  rcases Int.le_total 0 a with h0 | h0
  · have := Int.tmod_nonneg b h0
    omega
  · have h2 : 0 ≤ (-a).tmod b := Int.tmod_nonneg b (by omega)
    rw [Int.neg_tmod] at h2
    omega
theorem hear13b {k6 : Int} (hk6 : I64 k6) (e0 e1 e2 e3 e4 l3 l8 l9 l10 : List V) (k : Nat) (b0 b1 b2 b3 b4 : V) (l : List V) (hc : ZM b2) (hn : B_Node 10 (nodeV b3 l3 l8 l9 l10)) (hm : B_Msg 6 (msgV b4 l)) (hk : l.length < k) :
    Ok (fun r => I64 r.1 ∧ ZM r.2.2.2.1 ∧ B_Node 10 (nodeV r.2.2.2.2.1 r.2.2.2.2.2.2.2.2.2.2.2.1 r.2.2.2.2.2.2.2.2.2.2.2.2.1 r.2.2.2.2.2.2.2.2.2.2.2.2.2.1 r.2.2.2.2.2.2.2.2.2.2.2.2.2.2.1) ∧ B_Msg 6 (msgV r.2.2.2.2.2.1 r.2.2.2.2.2.2.2.2.2.2.2.2.2.2.2)) (ZaM k k6 0 b0 b1 (Za b2) b3 b4 e0 e1 e2 e3 e4 l3 l8 l9 l10 l) := by
  obtain ⟨p0, p1, p2, w3, n3, p4, p5, p6, p7, n8, w9, n9, w10, n10⟩ := hn
  obtain ⟨q0, q1, q2, q3, q4, q5, wl, nl, q7⟩ := hm
  refine (hear13 hk6 e0 e1 e2 e3 e4 l3 l8 l9 l10 w3 n3 n8 w9 n9 w10 n10 k 0 b0 b1 b2 b3 b4 l hc (Int.le_refl _) (by omega) (by omega) nl wl p0 p1 p2 p4 p5 p6 p7 q0 q1 q2 q3 q4 q5 q7).mono ?_
  rintro r ⟨a1, a2, a3, a4, a5, a6, a7, a8, a9, c0, c1, c2, c3, c4, c5, c7, d1, d2, d3, d4, d5, d6, d7, d8, d9⟩
  exact ⟨a1, a2, ⟨a3, a4, a5, d1, d2, a6, a7, a8, a9, d3, d4, d5, d6, d7⟩, ⟨c0, c1, c2, c3, c4, c5, d8, d9, c7⟩⟩
theorem hear20b {k6 : Int} (hk6 : I64 k6) (e0 e1 e2 e3 e4 l3 l8 l9 l10 : List V) (k : Nat) (b0 b1 b2 b3 : V) (l : List V) (hn : B_Node 10 (nodeV b2 l3 l8 l9 l10)) (hm : B_Msg 6 (msgV b3 l)) (hk : l.length < k) :
    Ok (fun r => I64 r.1 ∧ B_Node 10 (nodeV r.2.2.2.1 r.2.2.2.2.2.2.2.2.2.2.1 r.2.2.2.2.2.2.2.2.2.2.2.1 r.2.2.2.2.2.2.2.2.2.2.2.2.1 r.2.2.2.2.2.2.2.2.2.2.2.2.2.1) ∧ B_Msg 6 (msgV r.2.2.2.2.1 r.2.2.2.2.2.2.2.2.2.2.2.2.2.2)) (ZaX k k6 0 b0 b1 b2 b3 e0 e1 e2 e3 e4 l3 l8 l9 l10 l) := by
  obtain ⟨p0, p1, p2, w3, n3, p4, p5, p6, p7, n8, w9, n9, w10, n10⟩ := hn
  obtain ⟨q0, q1, q2, q3, q4, q5, wl, nl, q7⟩ := hm
  refine (hear20 hk6 e0 e1 e2 e3 e4 l3 l8 l9 l10 w3 n3 n8 w9 n9 w10 n10 k 0 b0 b1 b2 b3 l (Int.le_refl _) (by omega) (by omega) nl wl p0 p1 p2 p4 p5 p6 p7 q0 q1 q2 q3 q4 q5 q7).mono ?_
  rintro r ⟨a1, a3, a4, a5, a6, a7, a8, a9, c0, c1, c2, c3, c4, c5, c7, d1, d2, d3, d4, d5, d6, d7, d8, d9⟩
  exact ⟨a1, ⟨a3, a4, a5, d1, d2, a6, a7, a8, a9, d3, d4, d5, d6, d7⟩, ⟨c0, c1, c2, c3, c4, c5, d8, d9, c7⟩⟩
def PH (r : V × Int × V) : Prop := B_Node 10 r.1 ∧ I64 r.2.1 ∧ B_Msg 6 r.2.2
theorem tailH_O {k : Int} (hk : I64 k) {c N M : V} (hc : ZM c) (hN : B_Node 10 N) (hM : B_Msg 6 M) (b0 b1 : V) (e0 e1 e2 e3 e4 : List V) : Ok PH (tailH k c N M b0 b1 e0 e1 e2 e3 e4) := by
  have raw : Ok PH (some ((Zc N), k, (Zj M))) := ⟨_, rfl, hN, hk, hM⟩
  have hlen : (((gl M 6).length : Int) - 0).toNat = (gl M 6).length := by omega
  unfold tailH
  cases decide (gi M 0 = 2) with
  | false => exact raw
  | true =>
  cases decide (gi M 4 ≤ (((gl N 3).length : Nat) : Int)) with
  | false => exact raw
  | true =>
  cases decide ((0 : Int) < gi M 4) with
  | false => exact raw
  | true =>
  simp only [cond_true]
  refine Ok.bind (once_O hc 2) ?_
  rintro ⟨b, c2⟩ hc2
  cases b with
  | false => exact raw
  | true =>
  simp only [cond_true]
  refine Ok.bind (termAt_O hN.2.2.2.1 _) ?_
  intro r hr
  obtain ⟨q0, q1, q2, q3, q4, q5, wl, nl, q7⟩ := hM
  rw [hlen]
  refine Ok.bind (hear20b hk e0 e1 e2 e3 e4 (gl N 3) (gl N 8) (gl N 9) (gl N 10) _ b0 b1 _ _ (gl M 6) ?_ ?_ (Nat.lt_succ_self _)) ?_
  · exact hN
  · exact ⟨q0, q1, q2, q3, q4, hr, wl, nl, q7⟩
  · rintro s ⟨s1, s2, s3⟩
    obtain ⟨t0, t1, t2, t3, t4, t5, tl, tn, t7⟩ := s3
    cases decide (gi s.2.2.2.2.1 3 < gi s.2.2.2.2.1 5) with
    | true => exact ⟨_, rfl, s2, s1, ⟨t0, t1, t2, t5, t4, t5, tl, tn, t7⟩⟩
    | false => exact ⟨_, rfl, s2, s1, ⟨t0, t1, t2, t3, t4, t5, tl, tn, t7⟩⟩
theorem midH_O {k : Int} (hk : I64 k) {c N M : V} (hc : ZM c) (hN : B_Node 10 N) (hM : B_Msg 6 M) : Ok PH (midH k c N M) := by
  have hlen : (((gl M 6).length : Int) - 0).toNat = (gl M 6).length := by omega
  obtain ⟨q0, q1, q2, q3, q4, q5, wl, nl, q7⟩ := hM
  unfold midH
  refine Ok.bind (once_O hc 2) ?_
  rintro ⟨b, c2⟩ hc2
  cases b with
  | false => exact tailH_O hk hc2 hN ⟨q0, q1, q2, q3, q4, q5, wl, nl, q7⟩ _ _ _ _ _ _ _
  | true =>
  simp only [cond_true]
  cases decide ((0 : Int) < gi N 1) with
  | false => exact tailH_O hk hc2 hN ⟨q0, q1, q2, q3, q4, q5, wl, nl, q7⟩ _ _ _ _ _ _ _
  | true =>
  simp only [cond_true]
  rw [hlen]
  cases decide (gi N 1 < gi M 5) with
  | true =>
    refine Ok.bind (hear13b hk [] [] [] [] [] (gl N 3) (gl N 8) (gl N 9) (gl N 10) _ _ _ c2 _ _ (gl M 6) hc2 ?_ ?_ (Nat.lt_succ_self _)) ?_
    · exact hN
    · exact ⟨q0, q1, q2, hN.2.1, q4, hN.2.1, wl, nl, q7⟩
    · rintro s ⟨s1, s2, s3, s4⟩
      exact tailH_O s1 s2 s3 s4 _ _ _ _ _ _ _
  | false =>
    refine Ok.bind (hear13b hk [] [] [] [] [] (gl N 3) (gl N 8) (gl N 9) (gl N 10) _ _ _ c2 _ _ (gl M 6) hc2 ?_ ?_ (Nat.lt_succ_self _)) ?_
    · exact hN
    · exact ⟨q0, q1, q2, hN.2.1, q4, q5, wl, nl, q7⟩
    · rintro s ⟨s1, s2, s3, s4⟩
      exact tailH_O s1 s2 s3 s4 _ _ _ _ _ _ _
theorem drawHear_O {code : List V} (h : LW Zck code) : Ok PH (Zdx code) := by
  unfold Zdx
  refine Ok.bind (new_O h) ?_
  intro c0 h0
  refine Ok.bind2 (count_O h0) ?_
  rintro k c1 ⟨h1, k1, k5⟩
  have hk : I64 k := by unfold I64; omega
  refine Ok.bind2 (nbent_O h1 k1 k5) ?_
  rintro N c2 ⟨h2, hN⟩
  refine Ok.bind2 (mbent_O h2) ?_
  rintro M c3 ⟨h3, hM⟩
  refine Ok.bind (once_O h3 9) ?_
  rintro ⟨b, c4⟩ h4
  cases b with
  | true => exact midH_O hk h4 hN hM
  | false =>
  simp only [Bool.not_false, cond_true]
  by_cases hk1 : (1 : Int) < k
  case neg => rw [decide_eq_false hk1]; exact midH_O hk h4 hN hM
  rw [decide_eq_true hk1, ZW (n := k - 1) (by omega) (by omega)]
  obtain ⟨x, c5, e, h5, x0, x1⟩ := below_ok h4 (n := k - 1) (by omega)
  simp only [cond_true, e, Option.bind_some]
  rw [decide_eq_false (show ¬ k = 0 by omega)]
  obtain ⟨q0, q1, q2, q3, q4, q5, wl, nl, q7⟩ := hM
  exact midH_O hk h5 hN ⟨q0, tmJ (wrI _) _, hN.1, q3, q4, q5, wl, nl, q7⟩
end Go.Eng.R
open Go Go.Eng
namespace Go.Eng.R
def chB (x : V) : Bool := !decide (gi x 0 < 97) && !decide (122 < gi x 0) || decide (gi x 0 = 47)
theorem all_take_succ {p : V → Bool} {l : List V} {i : Nat} (h : i < l.length) : (l.take (i + 1)).all p = ((l.take i).all p && p (rd l i)) := by
  rw [List.take_add_one, List.all_append]
  have : l[i]? = some (rd l i) := by simp [rd, List.getD, h]
  rw [this]; simp
theorem all_rd_false {p : V → Bool} {l : List V} {i : Nat} (h : i < l.length) (hp : p (rd l i) = false) : l.all p = false := by
  rw [List.all_eq_false]
  refine ⟨rd l i, ?_, by simp [hp]⟩
  have : rd l i = l[i] := by simp [rd, List.getD, h]
  rw [this]; exact List.getElem_mem h
theorem all_loop {ρ : Type} {F : Nat → Int → ρ} {l : List V} {p : V → Bool} {yes no : ρ}
    (h1 : ∀ m (i : Nat), i < l.length → F (m + 1) (i : Int) = bif p (rd l i) then F m ((i + 1 : Nat) : Int) else no) (h0 : ∀ m, F (m + 1) (l.length : Int) = yes) :
    F (l.length + 1) 0 = bif l.all p then yes else no := by
  refine Zbc (F := fun m (_ : Unit) i => F m i) (n := l.length) (fun i _ => (l.take i).all p = true) (fun o => o = bif l.all p then yes else no) ?_ ?_ (s := ()) (by simp)
  · intro m i s hi hI
    rw [h1 m i hi]
    cases hp : p (rd l i) with
    | true => exact .inl ⟨(), rfl, by rw [all_take_succ hi, hI, hp]; rfl⟩
    | false => exact .inr (by rw [all_rd_false hi hp]; rfl)
  · intro m s hI
    rw [List.take_length] at hI
    rw [hI]; exact h0 m
def keyB (b : List V) : Bool := decide (1 ≤ b.length) && (decide (b.length ≤ 20) && b.all chB)
theorem spec_l2key_eq {b : List V} (hb : LW Zck b) : ZcF b = some (keyB b) := by
  have hl := hb.1
  unfold ZcF keyB
  by_cases h1 : 1 ≤ b.length
  · by_cases h2 : b.length ≤ 20
    · rw [show decide (((b.length : Nat) : Int) < 1) = false from by simp; omega, show decide ((20 : Int) < ((b.length : Nat) : Int)) = false from by simp; omega, cond_false, cond_false, Zba,
        all_loop (F := fun m i => Zbj m b i) (l := b) (p := chB) (yes := some (1, false)) (no := some (0, false)) ?_ ?_]
      · simp only [h1, h2, decide_true, Bool.true_and]
        cases b.all chB <;> rfl
      · intro m i hi
        simp only [Zbj, Zbo hi, ZG hi, Int.toNat_natCast, cond_true, Za2 hi hl, chB]
        cases decide (gi (rd b i) 0 < 97) <;> cases decide (122 < gi (rd b i) 0) <;> cases decide (gi (rd b i) 0 = 47) <;> rfl
      · intro m; simp only [Zbj, ZaW, cond_false]
    · rw [show decide (((b.length : Nat) : Int) < 1) = false from by simp; omega, show decide ((20 : Int) < ((b.length : Nat) : Int)) = true from by simp; omega]
      simp [h2]
  · rw [show decide (((b.length : Nat) : Int) < 1) = true from by simp; omega]
    simp [h1]
theorem Zbe (n lo hi : Int) : Zo n lo hi = decide (lo ≤ n ∧ n ≤ hi) := by
  unfold Zo
  by_cases h : lo ≤ n <;> simp [h]
theorem impl_KeyOk_eq {b : List V} (hb : LW Zck b) : ZcC b = some (keyB b) := by
  have hl := hb.1
  unfold ZcC keyB
  rw [Zba, all_loop (F := fun m i => Zbi m b b ((b.length : Nat) : Int) i) (l := b) (p := chB) (yes := some (1, b, false)) (no := some (0, b, false)) ?_ ?_]
  · cases b.all chB with
    | true => simp only [cond_true, Option.bind_some, Zbe]; simp [Nat.beq]; by_cases h1 : 1 ≤ b.length <;> by_cases h2 : b.length ≤ 20 <;> simp [h1, h2] <;> omega
    | false => simp [Nat.beq]
  · intro m i hi
    simp only [Zbi, Zbo hi, ZG hi, Int.toNat_natCast, cond_true, Za2 hi hl, chB]
    cases decide (gi (rd b i) 0 < 97) <;> cases decide (122 < gi (rd b i) 0) <;> cases decide (gi (rd b i) 0 = 47) <;> rfl
  · intro m; simp only [Zbi, ZaW, cond_false]
def opB (k : Int) (key : Bool) (nk nv : Nat) (n : Int) : Bool :=
  decide (nv ≤ 20) && (decide (0 ≤ n ∧ n ≤ 1000000) &&
    (bif decide (k = 1 ∨ k = 2 ∨ k = 3 ∨ k = 6 ∨ k = 7) then key else decide (nk = 0)) &&
    ((bif decide (k = 1 ∨ k = 2 ∨ k = 6) then true else decide (nv = 0)) &&
    ((bif decide (k = 0 ∨ k = 1 ∨ k = 3) then decide (n = 0) else bif decide (k = 4) then decide (n ≤ 1) else bif decide (k = 2) then true else decide (1 ≤ n)) && decide (0 ≤ k ∧ k ≤ 7))))
theorem impl_OpOk_eq {o : V} (ho : W_Op o) : impl_OpOk o = some (opB (gi o 0) (keyB (gl o 1)) (gl o 1).length (gl o 2).length (gi o 3)) := by
  unfold impl_OpOk
  rw [impl_KeyOk_eq ho.2.1]
  simp only [Zbe, Zde, Option.bind_some]
  generalize gi o 0 = k
  generalize keyB (gl o 1) = key
  generalize (gl o 1).length = nk
  generalize (gl o 2).length = nv
  generalize gi o 3 = n
  by_cases hk : 0 ≤ k ∧ k ≤ 7
  · obtain rfl | rfl | rfl | rfl | rfl | rfl | rfl | rfl : k = 0 ∨ k = 1 ∨ k = 2 ∨ k = 3 ∨ k = 4 ∨ k = 5 ∨ k = 6 ∨ k = 7 := by omega
    all_goals (cases key <;> simp [opB, Bool.cond_eq_ite] <;> (repeat' split) <;> simp_all <;> first | omega | (rw [Bool.eq_iff_iff]; simp; omega))
  · have hh : decide (0 ≤ k ∧ k ≤ 7) = false := by simpa using hk
    have h0 : decide (k = 0) = false := by simp; omega
    have h1 : decide (k = 1) = false := by simp; omega
    have h2 : decide (k = 2) = false := by simp; omega
    have h3 : decide (k = 3) = false := by simp; omega
    have h4 : decide (k = 4) = false := by simp; omega
    have h5 : decide (k = 5) = false := by simp; omega
    have h6 : decide (k = 6) = false := by simp; omega
    have h7 : decide (k = 7) = false := by simp; omega
    simp only [opB, hh, h0, h1, h2, h3, h4, h5, h6, h7, cond_false, Bool.and_false]
theorem spec_OpOk_eq {o : V} (ho : W_Op o) : spec_OpOk o = some (opB (gi o 0) (keyB (gl o 1)) (gl o 1).length (gl o 2).length (gi o 3)) := by
  unfold spec_OpOk
  rw [spec_l2key_eq ho.2.1]
  simp only [spec_l2val, spec_l2index, Option.bind_some]
  generalize gi o 0 = k
  generalize keyB (gl o 1) = key
  generalize (gl o 1).length = nk
  generalize (gl o 2).length = nv
  generalize gi o 3 = n
  by_cases hk : 0 ≤ k ∧ k ≤ 7
  · obtain rfl | rfl | rfl | rfl | rfl | rfl | rfl | rfl : k = 0 ∨ k = 1 ∨ k = 2 ∨ k = 3 ∨ k = 4 ∨ k = 5 ∨ k = 6 ∨ k = 7 := by omega
    all_goals (cases key <;> simp [opB, Bool.cond_eq_ite] <;> (repeat' split) <;> simp_all <;> omega)
  · have hh : decide (0 ≤ k ∧ k ≤ 7) = false := by simpa using hk
    simp only [opB, hh, Bool.and_false]
    by_cases h : k < 0
    · simp [h]
    · rw [show decide (k < 0) = false from by simpa using h, show decide (7 < k) = true from by simp; omega]; rfl
def cmdB (c : V) : Bool :=
  bif decide (gi c 0 = -1) then decide (gi c 1 = 0) && (decide (gi c 2 = 0) && opB (gi c 2) (keyB (gl c 3)) (gl c 3).length (gl c 4).length (gi c 5))
  else decide (0 ≤ gi c 0 ∧ gi c 0 ≤ 3) && (decide (1 ≤ gi c 1 ∧ gi c 1 ≤ 1000000) && opB (gi c 2) (keyB (gl c 3)) (gl c 3).length (gl c 4).length (gi c 5))
theorem spec_CmdOk_eq {c : V} (hc : W_Cmd c) : spec_CmdOk c = some (cmdB c) := by
  unfold spec_CmdOk
  rw [spec_OpOk_eq (o := V.agg [(V.int .i64 (gi c 2)), (V.inl Zf (gl c 3)), (V.inl Zf (gl c 4)), (V.int .i64 (gi c 5))]) hc.2.2]
  simp only [Option.bind_some, ZD, ZE, ZH, ZI, cmdB]
  generalize opB _ _ _ _ _ = z
  by_cases h1 : gi c 0 = -1
  · simp only [h1, decide_true, cond_true]
    by_cases h2 : gi c 1 = 0 <;> by_cases h3 : gi c 2 = 0 <;> simp [h2, h3]
  · simp only [h1, decide_false, cond_false]
    by_cases h2 : 0 ≤ gi c 0 <;> by_cases h3 : gi c 0 < 4 <;> by_cases h4 : 1 ≤ gi c 1 <;> by_cases h5 : gi c 1 ≤ 1000000 <;> simp [h2, h3, h4, h5] <;> omega
theorem eqList_nil (l : List V) : Zcg (l.map normB) [] = decide (l.length = 0) := by cases l <;> simp [Zcg]
theorem impl_same_noOp (c : V) : Zdz (Zb3 c) (Zb3 Zb8) = (decide (gi c 0 = -1) && (decide (gi c 1 = 0) && (decide (gi c 2 = 0) && (decide ((gl c 3).length = 0) && (decide ((gl c 4).length = 0) && decide (gi c 5 = 0)))))) := by
  simp only [Zdz, impl_Op_same, Zb8, Zb3, ZD, ZE, ZH, ZI, Zea, List.map_nil, eqList_nil]
  by_cases h0 : gi c 0 = -1 <;> by_cases h1 : gi c 1 = 0 <;> by_cases h2 : gi c 2 = 0 <;> by_cases h3 : (gl c 3).length = 0 <;> by_cases h4 : (gl c 4).length = 0 <;> simp [h0, h1, h2, h3, h4] <;> rfl
theorem impl_CmdOk_eq {c : V} (hc : W_Cmd c) : impl_CmdOk c = some (cmdB c) := by
  unfold impl_CmdOk
  rw [impl_OpOk_eq (o := V.agg [(V.int .i64 (gi c 2)), (V.inl Zf (gl c 3)), (V.inl Zf (gl c 4)), (V.int .i64 (gi c 5))]) hc.2.2, impl_same_noOp]
  simp only [Option.bind_some, ZD, ZE, ZH, ZI, cmdB, Zbe]
  by_cases h1 : gi c 0 = -1
  · simp only [h1, decide_true, cond_true, Bool.true_and]
    rw [show decide (0 ≤ (-1 : Int) ∧ (-1 : Int) ≤ 3) = false from rfl]
    by_cases h2 : gi c 1 = 0 <;> by_cases h3 : gi c 2 = 0 <;> simp only [h2, h3, decide_true, decide_false, Bool.true_and, Bool.false_and, cond_false]
    simp only [opB]
    by_cases a3 : (gl c 3).length = 0 <;> by_cases a4 : (gl c 4).length = 0 <;> by_cases a5 : gi c 5 = 0 <;> simp [a3, a4, a5]
  · simp only [h1, decide_false, cond_false, Bool.false_and]
    generalize opB _ _ _ _ _ = z
    by_cases h2 : 0 ≤ gi c 0 ∧ gi c 0 ≤ 3 <;> by_cases h3 : 1 ≤ gi c 1 ∧ gi c 1 ≤ 1000000 <;> simp [h2, h3]
def Za4 (x : V) : Bool := decide (1 ≤ gi x 0 ∧ gi x 0 ≤ 100000) && cmdB (V.agg [(V.int .i64 (gi x 1)), (V.int .i64 (gi x 2)), (V.int .i64 (gi x 3)), (V.inl Zf (gl x 4)), (V.inl Zf (gl x 5)), (V.int .i64 (gi x 6))])
theorem spec_ItemOk_eq {x : V} (hx : Zb2 x) : Zds x = some (Za4 x) := by
  unfold Zds Za4
  rw [spec_CmdOk_eq (c := V.agg [(V.int .i64 (gi x 1)), (V.int .i64 (gi x 2)), (V.int .i64 (gi x 3)), (V.inl Zf (gl x 4)), (V.inl Zf (gl x 5)), (V.int .i64 (gi x 6))]) hx.2]
  by_cases h1 : 1 ≤ gi x 0 <;> by_cases h2 : gi x 0 ≤ 100000 <;> simp [h1, h2]
theorem impl_ItemOk_eq {x : V} (hx : Zb2 x) : ZcN x = some (Za4 x) := by
  unfold ZcN Za4 Zc7
  rw [impl_CmdOk_eq (c := V.agg [(V.int .i64 (gi x 1)), (V.int .i64 (gi x 2)), (V.int .i64 (gi x 3)), (V.inl Zf (gl x 4)), (V.inl Zf (gl x 5)), (V.int .i64 (gi x 6))]) hx.2, Zbe]
  by_cases h1 : 1 ≤ gi x 0 ∧ gi x 0 ≤ 100000 <;> simp [h1]
end Go.Eng.R
open Go Go.Eng
namespace Go.Eng.R
open Classical
theorem Zcf {p : Nat → Bool} {i : Nat} : (List.range (i + 1)).all p = ((List.range i).all p && p i) := by
  rw [List.range_succ, List.all_append]; simp
theorem Zda {p : Nat → Bool} {i n : Nat} (h : i < n) (hp : p i = false) : (List.range n).all p = false := by
  rw [List.all_eq_false]
  exact ⟨i, List.mem_range.2 h, by simp [hp]⟩
theorem all_run {σ ρ : Type} {F : Nat → σ → Int → ρ} {n : Nat} {p : Nat → Bool} {yes no : ρ} (I : Nat → σ → Prop)
    (h1 : ∀ m i s, i < n → I i s → (p i = true ∧ ∃ s', F (m + 1) s (i : Int) = F m s' ((i + 1 : Nat) : Int) ∧ I (i + 1) s') ∨ (p i = false ∧ F (m + 1) s (i : Int) = no))
    (h0 : ∀ m s, I n s → F (m + 1) s (n : Int) = yes) {s : σ} (hs : I 0 s) : F (n + 1) s 0 = bif (List.range n).all p then yes else no := by
  refine Zbc (F := F) (n := n) (fun i s => (List.range i).all p = true ∧ I i s) (fun o => o = bif (List.range n).all p then yes else no) ?_ ?_ (s := s) ⟨by simp, hs⟩
  · intro m i s hi hI
    rcases h1 m i s hi hI.2 with ⟨hp, s', e, hI'⟩ | ⟨hp, e⟩
    · exact .inl ⟨s', e, by rw [Zcf, hI.1, hp]; rfl, hI'⟩
    · exact .inr (by rw [e, Zda hi hp]; rfl)
  · intro m s hI
    rw [hI.1]; exact h0 m s hI.2
theorem all_range {ρ : Type} {F : Nat → Int → ρ} {n : Nat} {p : Nat → Bool} {yes no : ρ}
    (h1 : ∀ m i, i < n → F (m + 1) (i : Int) = bif p i then F m ((i + 1 : Nat) : Int) else no) (h0 : ∀ m, F (m + 1) (n : Int) = yes) : F (n + 1) 0 = bif (List.range n).all p then yes else no := by
  refine all_run (F := fun m (_ : Unit) i => F m i) (fun _ _ => True) (fun m i s hi _ => ?_) (fun m _ _ => h0 m) (s := ()) trivial
  have := h1 m i hi
  cases hp : p i with
  | true => exact .inl ⟨rfl, (), by rw [this, hp]; rfl, trivial⟩
  | false => exact .inr ⟨rfl, by rw [this, hp]; rfl⟩
theorem chk {c b : Bool} {rest : Option Bool} (h1 : c = true → b = false) (h2 : c = false → rest = some b) : (bif c then some false else rest) = some b := by
  cases c with
  | true => rw [h1 rfl]; rfl
  | false => exact h2 rfl
def logB (n : V) (i : Nat) : Bool := Za4 (rd (gl n 3) i) && (decide (gi (rd (gl n 3) i) 0 ≤ gi n 1) && (decide (i = 0) || decide (gi (rd (gl n 3) (i - 1)) 0 ≤ gi (rd (gl n 3) i) 0)))
def cellB (n : V) (i : Nat) : Bool :=
  bif decide (gi n 5 = 2) then decide (1 ≤ gi (rd (gl n 9) i) 0 ∧ gi (rd (gl n 9) i) 0 ≤ ((gl n 3).length : Int) + 1) && decide (0 ≤ gi (rd (gl n 10) i) 0 ∧ gi (rd (gl n 10) i) 0 ≤ ((gl n 3).length : Int))
  else decide (gi (rd (gl n 9) i) 0 = 0) && decide (gi (rd (gl n 10) i) 0 = 0)
def voteB (n : V) (i : Nat) : Bool := !(decide (gi n 5 = 0)) || !(gb (rd (gl n 8) i) 0)
structure NodeP (n : V) (k : Int) : Prop where
  k1 : 1 ≤ k
  k5 : k ≤ 5
  id0 : 0 ≤ gi n 0
  idk : gi n 0 < k
  term0 : 0 ≤ gi n 1
  term1 : gi n 1 ≤ 100000
  vote0 : -1 ≤ gi n 2
  votek : gi n 2 < k
  lead0 : -1 ≤ gi n 6
  leadk : gi n 6 < k
  len : ((gl n 3).length : Int) ≤ 400
  com0 : 0 ≤ gi n 4
  com1 : gi n 4 ≤ ((gl n 3).length : Int)
  role0 : 0 ≤ gi n 5
  role2 : gi n 5 ≤ 2
  wait0 : 0 ≤ gi n 7
  wait1 : gi n 7 ≤ 20
  lvotes : ((gl n 8).length : Int) = k
  lnext : ((gl n 9).length : Int) = k
  lmatch : ((gl n 10).length : Int) = k
  items : (List.range (gl n 3).length).all (logB n) = true
  cells : (List.range (gl n 9).length).all (cellB n) = true
  votes : (List.range (gl n 8).length).all (voteB n) = true
  stands : gi n 5 ≠ 0 → 1 ≤ gi n 1 ∧ gi n 2 = gi n 0
  leads : gi n 5 = 2 → gi n 6 = gi n 0
noncomputable def nodeB (n : V) (k : Int) : Bool := decide (NodeP n k)
theorem Zw {n : V} {k : Int} (h : NodeP n k → False) : nodeB n k = false := decide_eq_false h
theorem spec_log_run {n : V} (hn : Z3 n) (servers : Int) : ZaQ ((gl n 3).length + 1) servers 0 (Zc n) =
    bif (List.range (gl n 3).length).all (logB n) then some (1, servers, false, Zc n) else some (0, servers, false, Zc n) := by
  have hl := hn.2.2.2.1.1
  refine all_range (F := fun m i => ZaQ m servers i (Zc n)) (fun m i hi => ?_) (fun m => ?_)
  · have e : Zds (Zp (rd (gl n 3) i)) = some (Za4 (rd (gl n 3) i)) := spec_ItemOk_eq (x := Zp (rd (gl n 3) i)) (hn.2.2.2.1.rd hi)
    show ZaQ (m + 1) servers i (Zc n) = _
    rw [ZaQ]
    simp only [show gl (Zc n) 3 = gl n 3 from rfl, show gi (Zc n) 1 = gi n 1 from rfl, Zbo hi, ZG hi, Int.toNat_natCast, cond_true, e, Option.bind_some, logB, Za2 hi hl]
    cases hit : Za4 (rd (gl n 3) i) with
    | false => rfl
    | true =>
      simp only [Bool.not_true, cond_false, Bool.true_and]
      by_cases h1 : gi (rd (gl n 3) i) 0 ≤ gi n 1
      · rw [show decide (gi n 1 < gi (rd (gl n 3) i) 0) = false from by simp; omega, cond_false, decide_eq_true h1, Bool.true_and]
        cases i with
        | zero => simp; rfl
        | succ j =>
          have hj : j < (gl n 3).length := by omega
          have ew : IntKind.i64.wrap (((j + 1 : Nat) : Int) - 1) = ((j : Nat) : Int) := by rw [ZW (by omega) (by omega)]; omega
          rw [show decide ((0 : Int) < ((j + 1 : Nat) : Int)) = true from decide_eq_true (by omega), cond_true, ew, ZG hj, cond_true, Int.toNat_natCast, show decide (j + 1 = 0) = false from by simp, Bool.false_or, Nat.add_sub_cancel]
          by_cases h2 : gi (rd (gl n 3) j) 0 ≤ gi (rd (gl n 3) (j + 1)) 0
          · rw [show decide (gi (rd (gl n 3) (j + 1)) 0 < gi (rd (gl n 3) j) 0) = false from by simp; omega, decide_eq_true h2]; rfl
          · rw [show decide (gi (rd (gl n 3) (j + 1)) 0 < gi (rd (gl n 3) j) 0) = true from by simp; omega, decide_eq_false h2]; rfl
      · rw [show decide (gi n 1 < gi (rd (gl n 3) i) 0) = true from by simp; omega, decide_eq_false h1]; rfl
  · show ZaQ (m + 1) servers _ (Zc n) = _
    rw [ZaQ]
    simp only [show gl (Zc n) 3 = gl n 3 from rfl, ZaW, cond_false]
    rfl
theorem impl_log_run {n : V} (hn : Z3 n) (servers : Int) : ZaP ((gl n 3).length + 1) servers 1 (gl n 3) ((gl n 3).length : Int) 0 (Zc n) =
    bif (List.range (gl n 3).length).all (logB n) then some (1, servers, false, Zc n) else some (0, servers, false, Zc n) := by
  have hl := hn.2.2.2.1.1
  refine all_run (F := fun m t i => ZaP m servers t (gl n 3) ((gl n 3).length : Int) i (Zc n)) (fun i t => t = if i = 0 then 1 else gi (rd (gl n 3) (i - 1)) 0) (fun m i t hi ht => ?_) (fun m t ht => ?_) rfl
  · have e : ZcN (Zp (rd (gl n 3) i)) = some (Za4 (rd (gl n 3) i)) := impl_ItemOk_eq (x := Zp (rd (gl n 3) i)) (hn.2.2.2.1.rd hi)
    have e0 : ZaP (m + 1) servers t (gl n 3) ((gl n 3).length : Int) i (Zc n) = bif (!(Za4 (rd (gl n 3) i))) then some (0, servers, false, Zc n) else bif (!(decide (t ≤ gi (rd (gl n 3) i) 0 ∧ gi (rd (gl n 3) i) 0 ≤ gi n 1))) then some (0, servers, false, Zc n)
        else ZaP m servers (gi (rd (gl n 3) i) 0) (gl n 3) ((gl n 3).length : Int) ((i + 1 : Nat) : Int) (Zc n) := by
      rw [ZaP]
      simp only [Zbo hi, ZG hi, Int.toNat_natCast, cond_true, e, Option.bind_some, Za2 hi hl, Zbe]
      rfl
    have hterm : Za4 (rd (gl n 3) i) = true → 1 ≤ gi (rd (gl n 3) i) 0 := fun h => by
      simp only [Za4, Bool.and_eq_true, decide_eq_true_eq] at h; exact h.1.1
    cases hp : logB n i with
    | true =>
      refine .inl ⟨rfl, _, ?_, by simp; rfl⟩
      simp only [logB, Bool.and_eq_true, decide_eq_true_eq, Bool.or_eq_true] at hp
      obtain ⟨p1, p2, p3⟩ := hp
      rw [e0, p1]
      have : t ≤ gi (rd (gl n 3) i) 0 ∧ gi (rd (gl n 3) i) 0 ≤ gi n 1 := by
        refine ⟨?_, p2⟩
        subst ht
        have := hterm p1
        split
        · exact this
        · rename_i h; rcases p3 with h' | h'
          · exact absurd h' h
          · exact h'
      rw [decide_eq_true this]; rfl
    | false =>
      refine .inr ⟨rfl, ?_⟩
      rw [e0]
      cases p1 : Za4 (rd (gl n 3) i) with
      | false => rfl
      | true =>
        have : ¬ (t ≤ gi (rd (gl n 3) i) 0 ∧ gi (rd (gl n 3) i) 0 ≤ gi n 1) := by
          rintro ⟨h1, h2⟩
          rw [logB, p1, decide_eq_true h2, Bool.true_and, Bool.true_and] at hp
          subst ht
          by_cases h0 : i = 0
          · simp [h0] at hp
          · rw [if_neg h0] at h1
            simp [h1] at hp
        rw [decide_eq_false this]; rfl
  · show ZaP (m + 1) servers t _ _ _ (Zc n) = _
    rw [ZaP]
    simp only [ZaW, cond_false]
    rfl
theorem lt_not (a b : Int) : decide (a < b) = !decide (b ≤ a) := by by_cases h : a < b <;> simp [h] <;> omega
theorem spec_cell_run {n : V} (hn : Z3 n) {N : Nat} (h8 : (gl n 8).length = N) (h9 : (gl n 9).length = N) (h10 : (gl n 10).length = N) (hlog : (gl n 3).length ≤ 400) : ZS (N + 1) (N : Int) 0 (Zc n) =
    bif (List.range N).all (fun i => cellB n i && voteB n i) then some (1, false, Zc n) else some (0, false, Zc n) := by
  have hl := hn.2.2.2.2.2.2.2.2.1.1
  rw [h8] at hl
  refine all_range (F := fun m i => ZS m (N : Int) i (Zc n)) (fun m i hi => ?_) (fun m => ?_)
  · have i8 : Zq (i : Int) (gl n 8).length = true := ZG (by omega)
    have i9 : Zq (i : Int) (gl n 9).length = true := ZG (by omega)
    have i10 : Zq (i : Int) (gl n 10).length = true := ZG (by omega)
    show ZS (m + 1) (N : Int) i (Zc n) = _
    rw [ZS]
    simp only [show gl (Zc n) 8 = gl n 8 from rfl, show gl (Zc n) 9 = gl n 9 from rfl, show gl (Zc n) 10 = gl n 10 from rfl, show gi (Zc n) 5 = gi n 5 from rfl, Zbo hi, i8, i9, i10, Int.toNat_natCast, cond_true, Za2 hi hl, show Zc (Zc n) = Zc n from rfl, show gl (Zc n) 3 = gl n 3 from rfl]
    rw [ZW (n := ((gl n 3).length : Int) + 1) (by omega) (by omega)]
    simp only [cellB, voteB]
    generalize ZS m _ _ _ = R
    generalize gi (rd (gl n 9) i) 0 = a
    generalize gi (rd (gl n 10) i) 0 = b
    generalize gb (rd (gl n 8) i) 0 = v
    generalize ((gl n 3).length : Int) = L
    by_cases h2 : gi n 5 = 2
    · have h0 : ¬ gi n 5 = 0 := by omega
      simp only [h2, decide_true, cond_true, Bool.not_true, cond_false, show decide ((2 : Int) = 0) = false from rfl, Bool.not_false, Bool.true_or, Bool.and_true]
      simp only [lt_not, Bool.decide_and]
      cases decide (1 ≤ a) <;> cases decide (a ≤ L + 1) <;> cases decide (0 ≤ b) <;> cases decide (b ≤ L) <;> rfl
    · simp only [h2, decide_false, cond_false, Bool.not_false, cond_true]
      by_cases a1 : a = 0 <;> by_cases a2 : b = 0 <;> by_cases a3 : gi n 5 = 0 <;> cases v <;> simp [a1, a2, a3]
  · show ZS (m + 1) _ _ (Zc n) = _
    rw [ZS]
    simp only [ZaW, cond_false]
    rfl
theorem impl_cell_run {n : V} (hn : Z3 n) {N : Nat} (h8 : (gl n 8).length = N) (h9 : (gl n 9).length = N) (h10 : (gl n 10).length = N) (hlog : (gl n 3).length ≤ 400) : ZL (N + 1) (N : Int) 0 (Zc n) =
    bif (List.range N).all (cellB n) then some (1, false) else some (0, false) := by
  have hl := hn.2.2.2.2.2.2.2.2.1.1
  rw [h8] at hl
  refine all_range (F := fun m i => ZL m (N : Int) i (Zc n)) (fun m i hi => ?_) (fun m => ?_)
  · have i9 : Zq (i : Int) (gl n 9).length = true := ZG (by omega)
    have i10 : Zq (i : Int) (gl n 10).length = true := ZG (by omega)
    show ZL (m + 1) (N : Int) i (Zc n) = _
    rw [ZL]
    simp only [show gl (Zc n) 9 = gl n 9 from rfl, show gl (Zc n) 10 = gl n 10 from rfl, show gi (Zc n) 5 = gi n 5 from rfl, Zbo hi, i9, i10, Int.toNat_natCast, cond_true, Za2 hi hl, show Zc (Zc n) = Zc n from rfl, show gl (Zc n) 3 = gl n 3 from rfl]
    rw [ZW (n := ((gl n 3).length : Int) + 1) (by omega) (by omega)]
    simp only [cellB, Zbe]
    generalize ZL m _ _ _ = R
    generalize gi (rd (gl n 9) i) 0 = a
    generalize gi (rd (gl n 10) i) 0 = b
    generalize ((gl n 3).length : Int) = L
    by_cases h2 : gi n 5 = 2
    · simp only [h2, decide_true, cond_true, Bool.not_true, cond_false]
      by_cases a1 : 1 ≤ a ∧ a ≤ L + 1 <;> by_cases a2 : 0 ≤ b ∧ b ≤ L <;> simp [a1, a2]
    · simp only [h2, decide_false, cond_false, Bool.not_false, cond_true]
      by_cases a1 : a = 0 <;> by_cases a2 : b = 0 <;> simp [a1, a2]
  · show ZL (m + 1) _ _ (Zc n) = _
    rw [ZL]
    simp only [ZaW, cond_false]
theorem contains_eq {l : List V} (hl : l.length ≤ 9223372036854775807) : Zb4 l true = some (!(List.range l.length).all (fun i => !gb (rd l i) 0)) := by
  unfold Zb4 Zdp
  rw [Zba]
  have key : (fun o : Option (Nat × Int) => ∃ p, o = some p ∧ ((p.1 = 1 ∧ (List.range l.length).all (fun i => !gb (rd l i) 0) = true) ∨ (p.1 = 0 ∧ 0 ≤ p.2 ∧ (List.range l.length).all (fun i => !gb (rd l i) 0) = false))) (ZaF (l.length + 1) l true (l.length : Int) 0) := by
    refine Zbc (F := fun m (_ : Unit) i => ZaF m l true (l.length : Int) i) (n := l.length) (fun i _ => (List.range i).all (fun i => !gb (rd l i) 0) = true) (fun o : Option (Nat × Int) => ∃ p, o = some p ∧ ((p.1 = 1 ∧ (List.range l.length).all (fun i => !gb (rd l i) 0) = true) ∨ (p.1 = 0 ∧ 0 ≤ p.2 ∧ (List.range l.length).all (fun i => !gb (rd l i) 0) = false))) ?_ ?_ (s := ()) (by simp)
    · intro m i s hi hI
      simp only [ZaF, Zbo hi, ZG hi, Int.toNat_natCast, cond_true, Za2 hi hl]
      cases hv : gb (rd l i) 0 with
      | true => exact .inr ⟨(0, (i : Int)), rfl, .inr ⟨rfl, by simp, Zda (p := fun i => !gb (rd l i) 0) hi (by simp [hv])⟩⟩
      | false => exact .inl ⟨(), rfl, by rw [Zcf, hI, hv]; rfl⟩
    · intro m s hI
      exact ⟨(1, 0), by simp only [ZaF, ZaW, cond_false], .inl ⟨rfl, hI⟩⟩
  obtain ⟨p, e, hp⟩ := key
  rw [e, Option.bind_some]
  rcases hp with ⟨p1, p2⟩ | ⟨p1, p2, p3⟩
  · rw [p1, p2]; rfl
  · rw [p1, p3]
    show some (decide (0 ≤ p.2)) = _
    rw [decide_eq_true p2]; rfl
end Go.Eng.R
open Go Go.Eng
namespace Go.Eng.R
open Classical
theorem range_and (p q : Nat → Bool) (n : Nat) : (List.range n).all (fun i => p i && q i) = ((List.range n).all p && (List.range n).all q) := by
  induction n with
  | zero => rfl
  | succ n ih => rw [Zcf, Zcf, Zcf, ih]; cases (List.range n).all p <;> cases (List.range n).all q <;> cases p n <;> cases q n <;> rfl
theorem servers_eq (k : Int) : Zdm k = decide (1 ≤ k ∧ k ≤ 5) := by
  unfold Zdm; by_cases h : 1 ≤ k <;> simp [h]
theorem term_eq (k : Int) : Zec k = decide (0 ≤ k ∧ k ≤ 100000) := by
  unfold Zec; by_cases h : 0 ≤ k <;> simp [h]
theorem who_eq (n k : Int) : ZdX n k = decide (-1 ≤ n ∧ n < k) := by
  unfold ZdX; by_cases h : -1 ≤ n <;> simp [h]
theorem Zaw {p : Prop} [Decidable p] (h : (!decide p) = true) : ¬ p := by simpa using h
theorem Zay {p : Prop} [Decidable p] (h : (!decide p) = false) : p := by simpa using h
theorem ZbC {p : Prop} [Decidable p] (h : decide p = true) : p := by simpa using h
theorem no_of {p : Prop} [Decidable p] (h : decide p = false) : ¬ p := by simpa using h
theorem spec_NodeOk_eq {n : V} (hn : Z3 n) (k : Int) : Zed (Zc n) k = some (nodeB n k) := by
  unfold Zed
  simp only [servers_eq, term_eq, who_eq, Zba, show Zc (Zc n) = Zc n from rfl]
  show (bif _ then _ else _) = _
  refine chk (fun h => Zw fun p => Zaw h ⟨p.k1, p.k5⟩) fun h => ?_
  obtain ⟨k1, k5⟩ := Zay h
  refine chk (fun h => Zw fun p => absurd (ZbC h) (Int.not_lt.2 p.id0)) fun h => ?_
  have id0 := no_of h
  refine chk (fun h => Zw fun p => absurd (ZbC h) (Int.not_le.2 p.idk)) fun h => ?_
  have idk := no_of h
  refine chk (fun h => Zw fun p => Zaw h ⟨p.term0, p.term1⟩) fun h => ?_
  have term := Zay h
  refine chk (fun h => Zw fun p => Zaw h ⟨p.vote0, p.votek⟩) fun h => ?_
  have vote := Zay h
  refine chk (fun h => Zw fun p => absurd (ZbC h) (Int.not_lt.2 p.len)) fun h => ?_
  have len := no_of h
  refine chk (fun h => Zw fun p => absurd (ZbC h) (Int.not_lt.2 p.com0)) fun h => ?_
  have com0 := no_of h
  refine chk (fun h => Zw fun p => absurd (ZbC h) (Int.not_lt.2 p.com1)) fun h => ?_
  have com1 := no_of h
  refine chk (fun h => Zw fun p => absurd (ZbC h) (Int.not_lt.2 p.role0)) fun h => ?_
  have role0 := no_of h
  refine chk (fun h => Zw fun p => absurd (ZbC h) (Int.not_lt.2 p.role2)) fun h => ?_
  have role2 := no_of h
  refine chk (fun h => Zw fun p => Zaw h ⟨p.lead0, p.leadk⟩) fun h => ?_
  have lead := Zay h
  refine chk (fun h => Zw fun p => absurd (ZbC h) (Int.not_lt.2 p.wait0)) fun h => ?_
  have wait0 := no_of h
  refine chk (fun h => Zw fun p => absurd (ZbC h) (Int.not_lt.2 p.wait1)) fun h => ?_
  have wait1 := no_of h
  refine chk (fun h => Zw fun p => Zaw h p.lvotes) fun h => ?_
  have lvotes := Zay h
  refine chk (fun h => Zw fun p => Zaw h p.lnext) fun h => ?_
  have lnext := Zay h
  refine chk (fun h => Zw fun p => Zaw h p.lmatch) fun h => ?_
  have lmatch := Zay h
  clear h
  have l8 : ((gl n 8).length : Int) = k := lvotes
  have l9 : ((gl n 9).length : Int) = k := lnext
  have l10 : ((gl n 10).length : Int) = k := lmatch
  have hlen : (gl n 3).length ≤ 400 := by
    have : ¬ (400 : Int) < ((gl n 3).length : Int) := len
    omega
  rw [show gl (Zc n) 3 = gl n 3 from rfl, spec_log_run hn k]
  cases hit : (List.range (gl n 3).length).all (logB n) with
  | false => exact (congrArg some (Zw fun p => by rw [p.items] at hit; cases hit)).symm
  | true =>
    have hcell := spec_cell_run hn (N := (gl n 8).length) rfl (by omega) (by omega) hlen
    rw [l8] at hcell
    simp only [cond_true, Option.bind_some, show Nat.beq 1 0 = false from rfl, cond_false]
    rw [show (k - 0).toNat + 1 = (gl n 8).length + 1 from by omega, show gi (Zc n) 5 = gi n 5 from rfl, show gi (Zc n) 1 = gi n 1 from rfl, show gi (Zc n) 2 = gi n 2 from rfl, show gi (Zc n) 0 = gi n 0 from rfl,
      show Zc (Zc n) = Zc n from rfl, hcell, range_and]
    have fin : ∀ (c v : Bool), (List.range (gl n 8).length).all (cellB n) = c → (List.range (gl n 8).length).all (voteB n) = v → (gi n 5 ≠ 0 → 1 ≤ gi n 1 ∧ gi n 2 = gi n 0) →
        (Option.bind (bif (c && v) then some (1, false, Zc n) else some (0, false, Zc n)) fun r29 => bif (Nat.beq r29.1 0) then some r29.2.1 else bif (!(decide ((gi r29.2.2 5) = 2))) then some true else some (decide ((gi r29.2.2 6) = (gi r29.2.2 0)))) = some (nodeB n k) := by
      intro c v hc hv hst
      cases c with
      | false => exact (congrArg some (Zw fun p => by have := p.cells; rw [show (gl n 9).length = (gl n 8).length from by omega, hc] at this; cases this)).symm
      | true =>
        cases v with
        | false => exact (congrArg some (Zw fun p => by have := p.votes; rw [hv] at this; cases this)).symm
        | true =>
          show (bif (!(decide (gi n 5 = 2))) then some true else some (decide (gi n 6 = gi n 0))) = _
          have mk : (gi n 5 = 2 → gi n 6 = gi n 0) → nodeB n k = true := fun hl => decide_eq_true
            { k1 := k1, k5 := k5, id0 := Int.not_lt.1 id0, idk := Int.not_le.1 idk, term0 := term.1, term1 := term.2, vote0 := vote.1, votek := vote.2, lead0 := lead.1, leadk := lead.2,
              len := by omega, com0 := Int.not_lt.1 com0, com1 := Int.not_lt.1 com1, role0 := Int.not_lt.1 role0, role2 := Int.not_lt.1 role2, wait0 := Int.not_lt.1 wait0, wait1 := Int.not_lt.1 wait1,
              lvotes := l8, lnext := l9, lmatch := l10, items := hit, cells := by rw [show (gl n 9).length = (gl n 8).length from by omega]; exact hc, votes := hv, stands := hst, leads := hl }
          by_cases h2 : gi n 5 = 2
          · by_cases h6 : gi n 6 = gi n 0
            · rw [mk fun _ => h6]; simp [h2, h6]
            · rw [Zw fun p => h6 (p.leads h2)]; simp [h2, h6]
          · rw [mk fun h => absurd h h2]; simp [h2]
    by_cases h5 : gi n 5 = 0
    · simp only [h5, decide_true, Bool.not_true, cond_false]
      have := fin _ _ rfl rfl (fun h => absurd h5 h)
      exact this
    · simp only [h5, decide_false, Bool.not_false, cond_true]
      refine chk (fun h => Zw fun p => absurd (ZbC h) (Int.not_lt.2 (p.stands h5).1)) fun h => ?_
      have s1 := no_of h
      refine chk (fun h => Zw fun p => Zaw h (p.stands h5).2) fun h => ?_
      have s2 := Zay h
      exact fin _ _ rfl rfl (fun _ => ⟨Int.not_lt.1 s1, s2⟩)
theorem server_eq (i k : Int) (hk : I64 k) : Zdy i k = (decide (1 ≤ k ∧ k ≤ 5) && decide (0 ≤ i ∧ i < k)) := by
  unfold Zdy
  simp only [Zbe]
  by_cases h : 1 ≤ k ∧ k ≤ 5
  · rw [ZW (by omega) (by omega), decide_eq_true h]
    simp only [cond_true, Bool.true_and]
    congr 1
    apply propext
    omega
  · rw [decide_eq_false h]; rfl
theorem wrap_pred (k : Int) (h1 : 1 ≤ k) (h5 : k ≤ 5) : IntKind.i64.wrap (k - 1) = k - 1 := ZW (by omega) (by omega)
theorem Zdn {n : V} (hn : Z3 n) (k : Int) (hk : I64 k) : Zc8 (Zc n) k = some (nodeB n k) := by
  unfold Zc8
  simp only [server_eq _ k hk, Zbe, Zba, show Zc (Zc n) = Zc n from rfl]
  refine chk (fun h => Zw fun p => ?_) fun h => ?_
  · have a : decide (1 ≤ k ∧ k ≤ 5) = true := decide_eq_true ⟨p.k1, p.k5⟩
    have b : decide (0 ≤ gi (Zc n) 0 ∧ gi (Zc n) 0 < k) = true := decide_eq_true ⟨p.id0, p.idk⟩
    rw [a, b] at h; cases h
  simp only [Bool.not_eq_false', Bool.and_eq_true, decide_eq_true_eq] at h
  obtain ⟨⟨k1, k5⟩, id0, idk⟩ := h
  rw [wrap_pred k k1 k5]
  refine chk (fun h => Zw fun p => Zaw h ⟨p.term0, p.term1⟩) fun h => ?_
  have term := Zay h
  refine chk (fun h => Zw fun p => Zaw h ⟨p.vote0, by have := p.votek; show gi n 2 ≤ k - 1; omega⟩) fun h => ?_
  have vote := Zay h
  refine chk (fun h => Zw fun p => Zaw h ⟨p.lead0, by have := p.leadk; show gi n 6 ≤ k - 1; omega⟩) fun h => ?_
  have lead := Zay h
  refine chk (fun h => Zw fun p => absurd (ZbC h) (Int.not_lt.2 p.len)) fun h => ?_
  have len := no_of h
  clear h
  have hlen : (gl n 3).length ≤ 400 := by
    have : ¬ (400 : Int) < ((gl n 3).length : Int) := len
    omega
  have vote : -1 ≤ gi n 2 ∧ gi n 2 ≤ k - 1 := vote
  have lead : -1 ≤ gi n 6 ∧ gi n 6 ≤ k - 1 := lead
  rw [show gl (Zc n) 3 = gl n 3 from rfl, impl_log_run hn k]
  cases hit : (List.range (gl n 3).length).all (logB n) with
  | false => exact (congrArg some (Zw fun p => by rw [p.items] at hit; cases hit)).symm
  | true =>
    simp only [cond_true, Option.bind_some, show Nat.beq 1 0 = false from rfl, cond_false]
    rw [show gl (Zc n) 3 = gl n 3 from rfl, show gl (Zc n) 8 = gl n 8 from rfl, show gl (Zc n) 9 = gl n 9 from rfl, show gl (Zc n) 10 = gl n 10 from rfl, show gi (Zc n) 4 = gi n 4 from rfl, show gi (Zc n) 5 = gi n 5 from rfl, show gi (Zc n) 7 = gi n 7 from rfl,
      show gi (Zc n) 1 = gi n 1 from rfl, show gi (Zc n) 2 = gi n 2 from rfl, show gi (Zc n) 0 = gi n 0 from rfl, show gi (Zc n) 6 = gi n 6 from rfl, show Zc (Zc n) = Zc n from rfl]
    refine chk (fun h => Zw fun p => Zaw h ⟨p.com0, p.com1⟩) fun h => ?_
    have com := Zay h
    refine chk (fun h => Zw fun p => Zaw h ⟨p.role0, p.role2⟩) fun h => ?_
    have role := Zay h
    refine chk (fun h => Zw fun p => Zaw h ⟨p.wait0, p.wait1⟩) fun h => ?_
    have wait := Zay h
    refine chk (fun h => Zw fun p => Zaw h p.lvotes) fun h => ?_
    have l8 := Zay h
    refine chk (fun h => Zw fun p => Zaw h p.lnext) fun h => ?_
    have l9 := Zay h
    refine chk (fun h => Zw fun p => Zaw h p.lmatch) fun h => ?_
    have l10 := Zay h
    clear h
    have hcell := impl_cell_run hn (N := (gl n 8).length) rfl (by omega) (by omega) hlen
    rw [l8] at hcell
    rw [show (k - 0).toNat + 1 = (gl n 8).length + 1 from by omega, hcell, contains_eq hn.2.2.2.2.2.2.2.2.1.1]
    have fin : (gi n 5 = 0 → (List.range (gl n 8).length).all (fun i => !gb (rd (gl n 8) i) 0) = true) → (gi n 5 ≠ 0 → 1 ≤ gi n 1 ∧ gi n 2 = gi n 0) → (gi n 5 = 2 → gi n 6 = gi n 0) →
        (Option.bind (bif (List.range (gl n 8).length).all (cellB n) then some (1, false) else some (0, false)) fun r51 : Nat × Bool => bif (Nat.beq r51.1 0) then some r51.2 else some true) = some (nodeB n k) := by
      intro hv hst hld
      cases hc : (List.range (gl n 8).length).all (cellB n) with
      | false => exact (congrArg some (Zw fun p => by have := p.cells; rw [show (gl n 9).length = (gl n 8).length from by omega, hc] at this; cases this)).symm
      | true =>
        have hcells : (List.range (gl n 9).length).all (cellB n) = true := by rw [show (gl n 9).length = (gl n 8).length from by omega]; exact hc
        have hvotes : (List.range (gl n 8).length).all (voteB n) = true := by
          by_cases h5 : gi n 5 = 0
          · rw [← hv h5]; congr 1; funext i; simp [voteB, h5]
          · rw [List.all_eq_true]; intro i _; simp [voteB, h5]
        refine (congrArg some (decide_eq_true ?_)).symm
        exact { k1 := k1, k5 := k5, id0 := id0, idk := idk, term0 := term.1, term1 := term.2, vote0 := vote.1, votek := (by omega), lead0 := lead.1, leadk := (by omega),
                    len := (by omega), com0 := com.1, com1 := com.2, role0 := role.1, role2 := role.2, wait0 := wait.1, wait1 := wait.2,
                    lvotes := l8, lnext := l9, lmatch := l10, items := hit, cells := hcells, votes := hvotes, stands := hst, leads := hld }
    by_cases h5 : gi n 5 = 0
    · simp only [h5, decide_true, Bool.not_true, cond_false, cond_true, Option.bind_some]
      refine chk (fun h => Zw fun p => ?_) fun h => ?_
      · have := p.votes
        have e : (List.range (gl n 8).length).all (voteB n) = (List.range (gl n 8).length).all (fun i => !gb (rd (gl n 8) i) 0) := by congr 1; funext i; simp [voteB, h5]
        rw [e] at this; rw [this] at h; cases h
      · simp only [show decide ((0 : Int) = 2) = false from rfl, cond_false]
        exact fin (fun _ => by simpa using h) (fun h => absurd h5 h) (fun h => by omega)
    · simp only [h5, decide_false, Bool.not_false, cond_true, cond_false]
      refine chk (fun h => Zw fun p => absurd (ZbC h) (Int.not_lt.2 (p.stands h5).1)) fun h => ?_
      have s1 := no_of h
      refine chk (fun h => Zw fun p => Zaw h (p.stands h5).2) fun h => ?_
      have s2 := Zay h
      by_cases h2 : gi n 5 = 2
      · simp only [h2, decide_true, cond_true]
        refine chk (fun h => Zw fun p => Zaw h (p.leads h2)) fun h => ?_
        exact fin (fun h => absurd h h5) (fun _ => ⟨Int.not_lt.1 s1, s2⟩) (fun _ => Zay h)
      · simp only [h2, decide_false, cond_false]
        exact fin (fun h => absurd h h5) (fun _ => ⟨Int.not_lt.1 s1, s2⟩) (fun h => absurd h h2)
end Go.Eng.R
open Go Go.Eng
namespace Go.Eng.R
theorem app_loop {F : Nat → List V → Int → Option (List V)} {a : List V} {f : V → V}
    (h1 : ∀ m (i : Nat) r, i < a.length → r.length = i → F (m + 1) r (i : Int) = F m (r ++ [f (rd a i)]) ((i + 1 : Nat) : Int)) (h0 : ∀ m r, F (m + 1) r (a.length : Int) = some r) : F (a.length + 1) [] 0 = some (a.map f) := by
  refine Zbc (F := F) (n := a.length) (fun i r => r = (a.take i).map f) (fun o => o = some (a.map f)) ?_ ?_ (by simp)
  · intro m i s hi hI
    refine .inl ⟨_, h1 m i s hi (by rw [hI]; simp; omega), ?_⟩
    have : a[i]? = some (rd a i) := by simp [rd, List.getD, hi]
    rw [hI, List.take_add_one, this]; simp
  · intro m s hI
    rw [h0, hI, List.take_length]
theorem roomyB {n b : Nat} (h : n * b ≤ 140737488355328) (h1 : n ≤ 9223372036854775807) : (Z1 n b && true) = true := by rw [roomy_of h h1]; rfl
theorem z_item_le {l : List V} {B : Nat} (h : zS Zv l ≤ B) : l.length ≤ B ∧ ∀ i, i < l.length → (gl (rd l i) 4).length ≤ B ∧ (gl (rd l i) 5).length ≤ B := by
  refine ⟨by simp only [zS] at h; omega, fun i hi => ?_⟩
  have h1 := sum_take_succ Zv hi
  have h2 := sumL_take_le Zv l (i + 1)
  simp only [zS] at h
  have h3 : Zv (rd l i) = zS z0 (gl (rd l i) 4) + zS z0 (gl (rd l i) 5) := rfl
  rw [zS_z0, zS_z0] at h3
  omega
theorem ZdB {l : List V} (h : l.length ≤ 4000000) : Zby l = some l := by
  unfold Zby
  rw [roomyB (by omega) (by omega)]; rfl
theorem impl_ownItems_eq {l : List V} (hl : LW Zb2 l) (hz : zS Zv l ≤ 4000000) : Zc2 l = some (l.map Zp) := by
  obtain ⟨z1, z2⟩ := z_item_le hz
  unfold Zc2
  rw [Zba, app_loop (F := fun m r i => Zbk m l (l.length : Int) i r) (f := Zp) ?_ ?_]
  · rfl
  · intro m i r hi hr
    have h1 := z2 i hi
    simp only [Zbk, Zbo hi, ZG hi, Int.toNat_natCast, cond_true, Zbu, Zeb, ZH, ZI, ZD, ZE, ZdB h1.1, ZdB h1.2, Option.bind_some]
    rw [roomyB (n := r.length + 1) (by omega) (by omega)]
    simp only [cond_true, Za2 hi hl.1]
    rfl
  · intro m r; simp only [Zbk, ZaW, cond_false]
def zeroN : V := V.agg [(V.int .i64 0), (V.int .i64 0), (V.int .i64 0), (V.inl Zb []), (V.int .i64 0), (V.int .i64 0), (V.int .i64 0), (V.int .i64 0), (V.inl Zi []), (V.inl Ze []), (V.inl Ze [])]
theorem I64_0 : I64 0 := ⟨by decide, by decide⟩
theorem I64_m1 : I64 (-1) := ⟨by decide, by decide⟩
theorem zeroN_W : Z3 zeroN := ⟨⟨by decide, by decide⟩, ⟨by decide, by decide⟩, ⟨by decide, by decide⟩, LW.nil, ⟨by decide, by decide⟩, ⟨by decide, by decide⟩, ⟨by decide, by decide⟩, ⟨by decide, by decide⟩, LW.nil, LW.nil, LW.nil⟩
theorem LW_rep {w : V → Prop} {x : V} {k : Nat} (h : w x) (hk : k ≤ 9223372036854775807) : LW w (List.replicate k x) := ⟨by simpa using hk, fun y hy => by rw [List.eq_of_mem_replicate hy]; exact h⟩
end Go.Eng.R
open Go Go.Eng
namespace Go.Eng.R
def termN (n : V) (p : Nat) : Int := bif decide (1 ≤ p ∧ p ≤ (gl n 3).length) then gi (rd (gl n 3) (p - 1)) 0 else 0
theorem ZbH {n : V} {p : Nat} (hl : (gl n 3).length ≤ 9223372036854775807) (hp : p ≤ 9223372036854775807) : Zad (Zc n) (p : Int) = some (termN n p) := by
  unfold Zad termN
  rw [show gl (Zc n) 3 = gl n 3 from rfl, Zbe]
  by_cases h : 1 ≤ p ∧ p ≤ (gl n 3).length
  · rw [decide_eq_true (p := (1 : Int) ≤ (p : Int) ∧ (p : Int) ≤ ((gl n 3).length : Int)) (by omega), decide_eq_true h, ZW (by omega) (by omega), show ((p : Int) - 1) = ((p - 1 : Nat) : Int) from by omega, ZG (by omega), Int.toNat_natCast]
    rfl
  · rw [decide_eq_false (p := (1 : Int) ≤ (p : Int) ∧ (p : Int) ≤ ((gl n 3).length : Int)) (by omega), decide_eq_false h]
    rfl
def Zbp (n : V) (p : Nat) : List V := (((gl n 3).drop p).take 4).map Zp
def Zau (n : V) (to : Nat) : Nat := (gi (rd (gl n 9) to) 0 - 1).toNat
def addN (n : V) (to : Nat) : V :=
  V.agg [(V.int .i64 2), (V.int .i64 (gi n 0)), (V.int .i64 (to : Int)), (V.int .i64 (gi n 1)), (V.int .i64 ((Zau n to : Nat) : Int)), (V.int .i64 (termN n (Zau n to))), (V.inl Zb (Zbp n (Zau n to))), (V.int .i64 (gi n 4)), (V.bool false)]
structure NextOk (n : V) (to : Nat) : Prop where
  lt : to < (gl n 9).length
  lo : 1 ≤ gi (rd (gl n 9) to) 0
  hi : gi (rd (gl n 9) to) 0 ≤ ((gl n 3).length : Int) + 1
  len : (gl n 3).length ≤ 401
theorem take_rd {l : List V} {i : Nat} (h : i < l.length) : l.take (i + 1) = l.take i ++ [rd l i] := by
  rw [List.take_add_one]
  have : l[i]? = some (rd l i) := by simp [rd, List.getD, h]
  rw [this]; rfl
theorem rd_drop (l : List V) (p i : Nat) : rd (l.drop p) i = rd l (p + i) := by simp [rd, List.getD]
theorem sumL_drop_le (c : V → Nat) (l : List V) (i : Nat) : Zav c (l.drop i) ≤ Zav c l := by
  have : Zav c l = Zav c (l.take i) + Zav c (l.drop i) := by rw [← Zd5, List.take_append_drop]
  omega
theorem zS_sub (z : V → Nat) (l : List V) (p k : Nat) : zS z ((l.drop p).take k) ≤ zS z l := by
  have h1 := sumL_take_le z (l.drop p) k
  have h2 := sumL_drop_le z l p
  simp only [zS, List.length_take, List.length_drop]; omega
theorem LW_sub {w : V → Prop} {l : List V} (h : LW w l) (p k : Nat) : LW w ((l.drop p).take k) :=
  ⟨by have := h.1; simp only [List.length_take, List.length_drop]; omega, fun x hx => h.2 x (List.mem_of_mem_drop (List.mem_of_mem_take hx))⟩
theorem impl_entries_eq {n : V} (hn : Z3 n) (hz : zS Zv (gl n 3) ≤ 4000000) {to : Nat} (h : NextOk n to) : Zb1 (Zc n) (to : Int) = some (addN n to) := by
  obtain ⟨h1, h2, h3, h4⟩ := h
  have hp : gi (rd (gl n 9) to) 0 - 1 = ((Zau n to : Nat) : Int) := by unfold Zau; omega
  have hpl : Zau n to ≤ (gl n 3).length := by unfold Zau; omega
  unfold Zb1
  simp only [show gl (Zc n) 9 = gl n 9 from rfl, show gl (Zc n) 3 = gl n 3 from rfl, ZG h1, Int.toNat_natCast, cond_true, show Zc (Zc n) = Zc n from rfl]
  rw [ZW (n := gi (rd (gl n 9) to) 0 - 1) (by omega) (by omega), hp, ZW (n := ((Zau n to : Nat) : Int) + 4) (by omega) (by omega), ZbH (by omega) (by omega)]
  have hm : mnI ((gl n 3).length : Int) (((Zau n to : Nat) : Int) + 4) = ((min (gl n 3).length (Zau n to + 4) : Nat) : Int) := by
    unfold mnI; split <;> omega
  rw [hm, decide_eq_true (p := (0 : Int) ≤ ((min (gl n 3).length (Zau n to + 4) : Nat) : Int)) (by omega), decide_eq_true (p := ((min (gl n 3).length (Zau n to + 4) : Nat) : Int) ≤ ((gl n 3).length : Int)) (by omega)]
  simp only [Bool.and_self, cond_true, Int.toNat_natCast, Option.bind_some]
  rw [decide_eq_true (p := (0 : Int) ≤ ((Zau n to : Nat) : Int)) (by omega), decide_eq_true (p := ((Zau n to : Nat) : Int) ≤ ((min (gl n 3).length (Zau n to + 4) : Nat) : Int)) (by omega)]
  simp only [Bool.and_self, cond_true]
  have htk : ((gl n 3).drop (Zau n to)).take (min (gl n 3).length (Zau n to + 4) - Zau n to) = ((gl n 3).drop (Zau n to)).take 4 := by
    rw [List.take_eq_take_iff]; simp; omega
  have hzz := zS_sub Zv (gl n 3) (Zau n to) 4
  rw [htk, impl_ownItems_eq (LW_sub hn.2.2.2.1 _ _) (by omega)]
  rfl
end Go.Eng.R
open Go Go.Eng
namespace Go.Eng.R
def ZR (id : Int) (N : Nat) : List V := ((List.range N).filter fun i : Nat => !decide ((i : Int) = id)).map fun i : Nat => V.int .i64 (i : Int)
theorem othersN_succ (id : Int) (N : Nat) : ZR id (N + 1) = ZR id N ++ (bif decide ((N : Int) = id) then [] else [V.int .i64 (N : Int)]) := by
  unfold ZR
  rw [List.range_succ, List.filter_append, List.map_append]
  congr 1
  by_cases h : (N : Int) = id <;> simp [h]
theorem Zdu (id : Int) (N : Nat) : (ZR id N).length ≤ N := by
  unfold ZR
  rw [List.length_map]
  exact Nat.le_trans (List.length_filter_le _ _) (by simp)
theorem Zdo {n : V} (h8 : (gl n 8).length ≤ 1000) : Zbl (Zc n) = some (ZR (gi n 0) (gl n 8).length) := by
  unfold Zbl
  rw [show gl (Zc n) 8 = gl n 8 from rfl, Zba]
  have key := Zbc (F := fun m r i => Z6 m ((gl n 8).length : Int) i (Zc n) r) (n := (gl n 8).length) (fun i r => r = ZR (gi n 0) i) (fun o => o = some (ZR (gi n 0) (gl n 8).length)) ?_ ?_ (s := []) rfl
  · have key : Z6 _ _ _ _ _ = _ := key
    show Option.bind (Z6 _ _ _ (Zc n) _) _ = _
    rw [key]; rfl
  · intro m i r hi hI
    have hrl : r.length ≤ i := by rw [hI]; exact Zdu _ _
    refine .inl ⟨ZR (gi n 0) (i + 1), ?_, rfl⟩
    show Z6 (m + 1) _ _ (Zc n) _ = _
    rw [Z6, othersN_succ, ← hI]
    simp only [Zbo hi, cond_true, show gi (Zc n) 0 = gi n 0 from rfl, Za2 hi (show (gl n 8).length ≤ 9223372036854775807 by omega)]
    rw [roomyB (n := r.length + 1) (by omega) (by omega)]
    by_cases h : (i : Int) = gi n 0
    · simp only [h, decide_true, Bool.not_true, cond_false, cond_true, List.append_nil]; rfl
    · simp only [h, decide_false, Bool.not_false, cond_false, cond_true]; rfl
  · intro m r hI
    show Z6 (m + 1) _ _ (Zc n) _ = _
    rw [Z6, ZaW, hI]; rfl
def ownM (m : V) : V := V.agg [(V.int .i64 (gi m 0)), (V.int .i64 (gi m 1)), (V.int .i64 (gi m 2)), (V.int .i64 (gi m 3)), (V.int .i64 (gi m 4)), (V.int .i64 (gi m 5)), (V.inl Zb ((gl m 6).map Zp)), (V.int .i64 (gi m 7)), (V.bool (gb m 8))]
theorem ownM_addN (n : V) (to : Nat) : ownM (addN n to) = addN n to := by
  have : (Zbp n (Zau n to)).map Zp = Zbp n (Zau n to) := by
    unfold Zbp; rw [List.map_map]; rfl
  show V.agg [_, _, _, _, _, _, V.inl _ ((Zbp n (Zau n to)).map Zp), _, _] = _
  rw [this]; rfl
theorem itemsN_W {n : V} (hn : Z3 n) (p : Nat) : LW Zb2 (Zbp n p) := LW.map (h := Zp) (fun x hx => hx) (LW_sub hn.2.2.2.1 _ _)
theorem itemsN_z {n : V} (p : Nat) : zS Zv (Zbp n p) ≤ zS Zv (gl n 3) := by
  unfold Zbp
  rw [zS_map (f := Zv) (g := Zv) (h := Zp) (fun x => rfl)]
  exact zS_sub _ _ _ _
theorem termN_I64 {n : V} (hn : Z3 n) (p : Nat) : I64 (termN n p) := by
  unfold termN
  by_cases h : 1 ≤ p ∧ p ≤ (gl n 3).length
  · rw [decide_eq_true h]
    exact (hn.2.2.2.1.rd (i := p - 1) (by omega)).1
  · rw [decide_eq_false h]; exact I64_0
theorem addN_W {n : V} (hn : Z3 n) {to : Nat} (h : NextOk n to) (ht : to ≤ 1000000) : ZbT (addN n to) := by
  have := h.hi; have := h.len
  refine ⟨(show I64 2 from ⟨by decide, by decide⟩), hn.1, ⟨by show (-9223372036854775808 : Int) ≤ (to : Int); omega, by show ((to : Int)) ≤ 9223372036854775807; omega⟩, hn.2.1, ?_, termN_I64 hn _, itemsN_W hn _, hn.2.2.2.2.1, trivial⟩
  constructor
  · show (-9223372036854775808 : Int) ≤ ((Zau n to : Nat) : Int); omega
  · show (((Zau n to : Nat)) : Int) ≤ 9223372036854775807
    unfold Zau; omega
theorem addN_ct {n : V} {to : Nat} (hz : zS Zv (gl n 3) ≤ 4000000) : ct_Msg (addN n to) ≤ 100000000 := by
  have h1 := itemsN_z (n := n) (Zau n to)
  have h2 : Zav c_Item (Zbp n (Zau n to)) ≤ 5 * zS Zv (Zbp n (Zau n to)) := sumL_mul 5 fun y _ => c_Item_cz y
  show Zav c_Item (Zbp n (Zau n to)) ≤ _
  omega
theorem nextOk_of {n : V} {k : Int} (hp : NodeP n k) (h2 : gi n 5 = 2) {to : Nat} (ht : (to : Int) < k) : NextOk n to := by
  have hlen := hp.lnext
  have hto : to < (gl n 9).length := by omega
  have := List.all_eq_true.1 hp.cells to (List.mem_range.2 hto)
  simp only [cellB, h2, decide_true, cond_true, Bool.and_eq_true, decide_eq_true_eq] at this
  exact ⟨hto, this.1.1, this.1.2, by have := hp.len; omega⟩
end Go.Eng.R
open Go Go.Eng
namespace Go.Eng.R
theorem containsI_eq {l : List V} (hl : l.length ≤ 9223372036854775807) (v : Int) : Zcp l v = some (!(List.range l.length).all (fun i => !decide (v = gi (rd l i) 0))) := by
  unfold Zcp ZdF
  rw [Zba]
  have key : (fun o : Option (Nat × Int) => ∃ p, o = some p ∧ ((p.1 = 1 ∧ (List.range l.length).all (fun i => !decide (v = gi (rd l i) 0)) = true) ∨ (p.1 = 0 ∧ 0 ≤ p.2 ∧ (List.range l.length).all (fun i => !decide (v = gi (rd l i) 0)) = false))) (ZaK (l.length + 1) l v (l.length : Int) 0) := by
    refine Zbc (F := fun m (_ : Unit) i => ZaK m l v (l.length : Int) i) (n := l.length) (fun i _ => (List.range i).all (fun i => !decide (v = gi (rd l i) 0)) = true) (fun o : Option (Nat × Int) => ∃ p, o = some p ∧ ((p.1 = 1 ∧ (List.range l.length).all (fun i => !decide (v = gi (rd l i) 0)) = true) ∨ (p.1 = 0 ∧ 0 ≤ p.2 ∧ (List.range l.length).all (fun i => !decide (v = gi (rd l i) 0)) = false))) ?_ ?_ (s := ()) (by simp)
    · intro m i s hi hI
      simp only [ZaK, Zbo hi, ZG hi, Int.toNat_natCast, cond_true, Za2 hi hl]
      cases hv : decide (v = gi (rd l i) 0) with
      | true => exact .inr ⟨(0, (i : Int)), rfl, .inr ⟨rfl, by simp, Zda (p := fun i => !decide (v = gi (rd l i) 0)) hi (by simp [hv])⟩⟩
      | false => exact .inl ⟨(), rfl, by rw [Zcf, hI, hv]; rfl⟩
    · intro m s hI
      exact ⟨(1, 0), by simp only [ZaK, ZaW, cond_false], .inl ⟨rfl, hI⟩⟩
  obtain ⟨p, e, hp⟩ := key
  rw [e, Option.bind_some]
  rcases hp with ⟨p1, p2⟩ | ⟨p1, p2, p3⟩
  · rw [p1, p2]; rfl
  · rw [p1, p3]
    show some (decide (0 ≤ p.2)) = _
    rw [decide_eq_true p2]; rfl
theorem othersN_mem {id v : Int} {N : Nat} : (!(List.range (ZR id N).length).all (fun i => !decide (v = gi (rd (ZR id N) i) 0))) = decide (0 ≤ v ∧ v < (N : Int) ∧ v ≠ id) := by
  by_cases h : 0 ≤ v ∧ v < (N : Int) ∧ v ≠ id
  · rw [decide_eq_true h]
    have hm : V.int .i64 v ∈ ZR id N := by
      unfold ZR
      refine List.mem_map.2 ⟨v.toNat, List.mem_filter.2 ⟨List.mem_range.2 (by omega), ?_⟩, by rw [Int.toNat_of_nonneg h.1]⟩
      rw [Int.toNat_of_nonneg h.1]; simpa using h.2.2
    obtain ⟨i, hi, he⟩ := List.getElem_of_mem hm
    rw [Zda (p := fun i => !decide (v = gi (rd (ZR id N) i) 0)) hi ?_]
    · rfl
    · have : rd (ZR id N) i = V.int .i64 v := by simp [rd, List.getD, hi, he]
      simp [this, gi, V.cell, V.cells, V.I]
  · rw [decide_eq_false h]
    have : (List.range (ZR id N).length).all (fun i => !decide (v = gi (rd (ZR id N) i) 0)) = true := by
      rw [List.all_eq_true]
      intro i hi
      have hi := List.mem_range.1 hi
      have hm : rd (ZR id N) i ∈ ZR id N := by
        have : rd (ZR id N) i = (ZR id N)[i] := by simp [rd, List.getD, hi]
        rw [this]; exact List.getElem_mem hi
      unfold ZR at hm
      obtain ⟨j, hj, he⟩ := List.mem_map.1 hm
      obtain ⟨hj1, hj2⟩ := List.mem_filter.1 hj
      have hj1 := List.mem_range.1 hj1
      have : gi (rd (ZR id N) i) 0 = (j : Int) := by unfold ZR; rw [← he]; rfl
      rw [this]
      simp at hj2 ⊢
      intro hv
      exact h ⟨by omega, by omega, by rw [hv]; exact hj2⟩
    rw [this]; rfl
end Go.Eng.R
open Go Go.Eng
namespace Go.Eng.R
structure ND where
  id : Int
  term : Int
  vote : Int
  log : List V
  commit : Int
  role : Int
  lead : Int
  wait : Int
  votes : List V
  next : List V
  mtch : List V
def ND.v (s : ND) : V := V.agg [(V.int .i64 s.id), (V.int .i64 s.term), (V.int .i64 s.vote), (V.inl Zb s.log), (V.int .i64 s.commit), (V.int .i64 s.role), (V.int .i64 s.lead), (V.int .i64 s.wait), (V.inl Zi s.votes), (V.inl Ze s.next), (V.inl Ze s.mtch)]
def ND.sv (s : ND) (out : List V) : V := V.agg [(V.int .i64 s.id), (V.int .i64 s.term), (V.int .i64 s.vote), (V.inl Zb s.log), (V.int .i64 s.commit), (V.int .i64 s.role), (V.int .i64 s.lead), (V.int .i64 s.wait), (V.inl Zi s.votes), (V.inl Ze s.next), (V.inl Ze s.mtch), (V.inl Zk out)]
def ND.of (n : V) : ND := ⟨gi n 0, gi n 1, gi n 2, gl n 3, gi n 4, gi n 5, gi n 6, gi n 7, gl n 8, gl n 9, gl n 10⟩
def ND.b (s : ND) (a b c d e : Nat) : V := V.agg [(V.int .i64 s.id), (V.int .i64 s.term), (V.int .i64 s.vote), (V.sl a Zb 0 none), (V.int .i64 s.commit), (V.int .i64 s.role), (V.int .i64 s.lead), (V.int .i64 s.wait), (V.sl b Zi 0 none), (V.sl c Ze 0 none), (V.sl d Ze 0 none), (V.sl e Zk 0 none)]
def ZaS (p : Int) : List V → Nat
  | [] => 0
  | x :: l => (bif decide (p ≤ gi x 0) then 1 else 0) + ZaS p l
theorem cntGe_append (p : Int) (a b : List V) : ZaS p (a ++ b) = ZaS p a + ZaS p b := by induction a <;> simp_all [ZaS]; omega
theorem cntGe_succ (p : Int) {l : List V} {i : Nat} (h : i < l.length) : ZaS p (l.take (i + 1)) = ZaS p (l.take i) + (bif decide (p ≤ gi (rd l i) 0) then 1 else 0) := by
  rw [take_rd h, cntGe_append]; simp [ZaS]
theorem cntGe_le (p : Int) (l : List V) : ZaS p l ≤ l.length := by
  induction l with
  | nil => simp [ZaS]
  | cons x l ih => simp only [ZaS, List.length_cons]; cases decide (p ≤ gi x 0) <;> simp <;> omega
def termL (log : List V) (p : Nat) : Int := bif decide (1 ≤ p ∧ p ≤ log.length) then gi (rd log (p - 1)) 0 else 0
def ZbN (s : ND) (c : Nat) : Nat → Nat
  | 0 => c
  | j + 1 => bif decide (termL s.log (c + (j + 1)) = s.term) && decide ((s.votes.length : Int) < 2 * ((ZaS (((c + (j + 1) : Nat)) : Int) s.mtch : Nat) : Int)) then c + (j + 1) else ZbN s c j
def ND.mark (s : ND) : ND := { s with next := s.next.set s.id.toNat (V.int .i64 (((s.log.length : Nat) : Int) + 1)), mtch := s.mtch.set s.id.toNat (V.int .i64 ((s.log.length : Nat) : Int)) }
def ND.adv (s : ND) : ND := { s.mark with commit := ((ZbN s.mark s.commit.toNat (s.log.length - s.commit.toNat) : Nat) : Int) }
def ZbO (n : V) (N : Nat) : List V := ((List.range N).filter fun i : Nat => !decide ((i : Int) = gi n 0)).map (addN n)
theorem msgsN_len (n : V) (N : Nat) : (ZbO n N).length ≤ N := by
  unfold ZbO
  rw [List.length_map]
  exact Nat.le_trans (List.length_filter_le _ _) (by simp)
theorem impl_adv_count {s : ND} {out : List V} (hl : s.mtch.length ≤ 1000) (ZQ : Int) : Z0 (s.mtch.length + 1) ZQ 0 (s.mtch.length : Int) 0 (s.b 2 3 4 1 5) s.mtch s.log s.votes s.next out =
    some (ZQ, ((ZaS ZQ s.mtch : Nat) : Int), s.b 1 2 3 4 5, s.log, s.votes, s.next, s.mtch, out) := by
  refine Zbc (F := fun m c i => Z0 m ZQ c (s.mtch.length : Int) i (s.b 2 3 4 1 5) s.mtch s.log s.votes s.next out) (n := s.mtch.length) (fun i c => c = ((ZaS ZQ (s.mtch.take i) : Nat) : Int)) (fun o => o = some (ZQ, ((ZaS ZQ s.mtch : Nat) : Int), s.b 1 2 3 4 5, s.log, s.votes, s.next, s.mtch, out)) ?_ ?_ (by simp [ZaS])
  · intro m i c hi hI
    have hle := cntGe_le ZQ (s.mtch.take i)
    simp only [List.length_take] at hle
    refine .inl ⟨_, ?_, (cntGe_succ ZQ hi ▸ rfl : ((ZaS ZQ (s.mtch.take (i + 1)) : Nat) : Int) = ((ZaS ZQ (s.mtch.take (i + 1)) : Nat) : Int))⟩
    show Z0 (m + 1) ZQ c _ (i : Int) _ _ _ _ _ _ = _
    rw [Z0, cntGe_succ ZQ hi]
    simp only [Zbo hi, ZG hi, Int.toNat_natCast, Nat.zero_add, cond_true, Za2 hi (show s.mtch.length ≤ 9223372036854775807 by omega)]
    by_cases h : ZQ ≤ gi (rd s.mtch i) 0
    · simp only [h, decide_true, cond_true]
      rw [ZW (by omega) (by omega), hI, show ((ZaS ZQ (s.mtch.take i) : Nat) : Int) + 1 = ((ZaS ZQ (s.mtch.take i) + 1 : Nat) : Int) from by omega]
      rfl
    · simp only [h, decide_false, cond_false, Nat.add_zero]
      rw [hI]; rfl
  · intro m c hI
    rw [List.take_length] at hI
    show Z0 (m + 1) ZQ c _ _ _ _ _ _ _ _ = _
    rw [Z0, ZaW, hI]; rfl
theorem impl_adv_run {s : ND} {out : List V} {c : Nat} (hc : s.commit = (c : Int)) (hm : s.mtch.length ≤ 1000) (hv : s.votes.length = s.mtch.length) (hL : s.log.length ≤ 1000) :
    ∀ j m, j < m → c + j ≤ s.log.length → ∃ ix, Z9 m ((c + j : Nat) : Int) (s.b 1 2 3 4 5) s.log s.votes s.next s.mtch out = some (ix, ({ s with commit := ((ZbN s c j : Nat) : Int) } : ND).b 1 2 3 4 5, s.log, s.votes, s.next, s.mtch, out)
  | _, 0, h, _ => by omega
  | 0, m + 1, _, _ => by
    refine ⟨1, ?_⟩
    rw [Z9]
    simp only [ND.b, ZD, ZE, ZbN, ← hc, Nat.add_zero]
    simp only [Int.lt_irrefl, decide_false, cond_false]
    try rfl
  | j + 1, m + 1, h, hj => by
    obtain ⟨ix, ih⟩ := impl_adv_run (out := out) hc hm hv hL j m (by omega) (by omega)
    have ecnt := impl_adv_count (out := out) hm (((c + (j + 1) : Nat)) : Int)
    have et := ZbH (n := s.v) (p := c + (j + 1)) (show s.log.length ≤ _ by omega) (by omega)
    rw [show Zc s.v = s.v from rfl, show termN s.v (c + (j + 1)) = termL s.log (c + (j + 1)) from rfl] at et
    have hcl := cntGe_le (((c + (j + 1) : Nat)) : Int) s.mtch
    rw [Z9]
    simp only [ND.b, ND.v, ZD, ZE, Zba] at ecnt ih et ⊢
    have hlt : s.commit < ((c + (j + 1) : Nat) : Int) := by omega
    simp only [hlt, decide_true, ecnt, cond_true, Option.bind_some, ZD, ZE, et, ZcS, ZH, ZI]
    rw [ZW (n := 2 * ((ZaS (((c + (j + 1) : Nat)) : Int) s.mtch : Nat) : Int)) (by omega) (by omega), ZW (n := (((c + (j + 1) : Nat)) : Int) - 1) (by omega) (by omega), show (((c + (j + 1) : Nat)) : Int) - 1 = ((c + j : Nat) : Int) from by omega]
    simp only [ZbN]
    by_cases h2 : termL s.log (c + (j + 1)) = s.term
    · by_cases h1 : ((s.votes.length : Nat) : Int) < 2 * ((ZaS (((c + (j + 1) : Nat)) : Int) s.mtch : Nat) : Int)
      · simp only [h1, h2, decide_true, cond_true, Bool.and_self]
        exact ⟨0, rfl⟩
      · simp only [h1, h2, decide_true, decide_false, cond_true, cond_false, Bool.and_false]
        exact ⟨ix, ih⟩
    · simp only [h2, decide_false, cond_false, Bool.false_and]
      exact ⟨ix, ih⟩
theorem impl_advance_eq {s : ND} {out : List V} (hi0 : 0 ≤ s.id) (hi : s.id < (s.mtch.length : Int)) (hn : s.next.length = s.mtch.length) (hv : s.votes.length = s.mtch.length) (hm : s.mtch.length ≤ 1000) (hL : s.log.length ≤ 1000) (hc0 : 0 ≤ s.commit) (hc1 : s.commit ≤ (s.log.length : Int)) :
    ZaY (s.sv out) = some (s.adv.sv out) := by
  obtain ⟨c, hc⟩ : ∃ c : Nat, s.commit = (c : Int) := ⟨s.commit.toNat, by omega⟩
  obtain ⟨ix, e⟩ := impl_adv_run (s := s.mark) (out := out) (c := c) hc (by simpa [ND.mark] using hm) (by simpa [ND.mark] using hv) hL (s.log.length - c) (s.log.length - c + 1) (by omega) (by show c + (s.log.length - c) ≤ s.log.length; omega)
  have ei : s.id = ((s.id.toNat : Nat) : Int) := by omega
  unfold ZaY
  rw [show gi (s.sv out) 0 = s.id from rfl, show gl (s.sv out) 10 = s.mtch from rfl, show gl (s.sv out) 9 = s.next from rfl, show gl (s.sv out) 3 = s.log from rfl]
  rw [show Zq s.id s.mtch.length = true from by rw [ei]; exact ZG (by omega), show Zq s.id s.next.length = true from by rw [ei]; exact ZG (by omega)]
  simp only [cond_true]
  rw [ZW (n := ((s.log.length : Nat) : Int) + 1) (by omega) (by omega)]
  have e : Z9 (s.log.length - c + 1) ((c + (s.log.length - c) : Nat) : Int) (s.b 1 2 3 4 5) s.log s.votes (s.next.set (0 + s.id.toNat) (V.int .i64 (((s.log.length : Nat) : Int) + 1))) (s.mtch.set (0 + s.id.toNat) (V.int .i64 ((s.log.length : Nat) : Int))) out = some (ix, ({ s.mark with commit := ((ZbN s.mark c (s.log.length - c) : Nat) : Int) } : ND).b 1 2 3 4 5, s.log, s.votes, s.next.set (0 + s.id.toNat) (V.int .i64 (((s.log.length : Nat) : Int) + 1)), s.mtch.set (0 + s.id.toNat) (V.int .i64 ((s.log.length : Nat) : Int)), out) := by
    rw [Nat.zero_add]; exact e
  rw [show ((c + (s.log.length - c) : Nat) : Int) = ((s.log.length : Nat) : Int) from by omega] at e
  have ef : (((s.log.length : Nat) : Int) - s.commit).toNat + 1 = s.log.length - c + 1 := by omega
  have e2 : Z9 ((((s.log.length : Nat) : Int) - s.commit).toNat + 1) ((s.log.length : Nat) : Int) (s.b 1 2 3 4 5) s.log s.votes (s.next.set (0 + s.id.toNat) (V.int .i64 (((s.log.length : Nat) : Int) + 1))) (s.mtch.set (0 + s.id.toNat) (V.int .i64 ((s.log.length : Nat) : Int))) out = some (ix, ({ s.mark with commit := ((ZbN s.mark c (s.log.length - c) : Nat) : Int) } : ND).b 1 2 3 4 5, s.log, s.votes, s.next.set (0 + s.id.toNat) (V.int .i64 (((s.log.length : Nat) : Int) + 1)), s.mtch.set (0 + s.id.toNat) (V.int .i64 ((s.log.length : Nat) : Int)), out) := by rw [ef]; exact e
  have hadv : s.adv = ({ s.mark with commit := ((ZbN s.mark c (s.log.length - c) : Nat) : Int) } : ND) := by
    unfold ND.adv
    rw [show s.commit.toNat = c from by omega]
  rw [hadv]
  refine Eq.trans (congrArg (fun o => Option.bind o _) e2) ?_
  simp only [Option.bind_some, Nat.zero_add]
  cases Nat.beq ix 0 <;> rfl
theorem impl_send_eq {s : ND} {out : List V} (hW : Z3 s.v) (hz : zS Zv s.log ≤ 4000000) {to : Nat} (h : NextOk s.v to) (ho : out.length ≤ 100000) : Zbm (s.sv out) (to : Int) = some (s.sv (out ++ [addN s.v to])) := by
  unfold Zbm
  rw [show Zc (s.sv out) = Zc s.v from rfl, impl_entries_eq hW hz h, show gl (s.sv out) 11 = out from rfl]
  simp only [Option.bind_some]
  rw [roomyB (n := out.length + 1) (by omega) (by omega)]
  rfl
theorem impl_sendAll_eq {s : ND} {out : List V} (hW : Z3 s.v) (hz : zS Zv s.log ≤ 4000000) (hv : s.votes.length ≤ 1000) (hN : ∀ i, i < s.votes.length → (i : Int) ≠ s.id → NextOk s.v i) (ho : out.length ≤ 1000) :
    ZaZ (s.sv out) = some (s.sv (out ++ ZbO s.v s.votes.length)) := by
  have hoth := Zdo (n := s.v) (show s.votes.length ≤ 1000 from hv)
  rw [show gi s.v 0 = s.id from rfl, show gl s.v 8 = s.votes from rfl] at hoth
  let L : List Nat := (List.range s.votes.length).filter fun i : Nat => !decide ((i : Int) = s.id)
  have hL : ZR s.id s.votes.length = L.map fun i : Nat => V.int .i64 (i : Int) := rfl
  have hM : ZbO s.v s.votes.length = L.map (addN s.v) := rfl
  have hlen : L.length ≤ 1000 := Nat.le_trans (List.length_filter_le _ _) (by simpa using hv)
  have hmem : ∀ j ∈ L, NextOk s.v j := fun j hj => by
    obtain ⟨h1, h2⟩ := List.mem_filter.1 hj
    exact hN j (List.mem_range.1 h1) (by simpa using h2)
  have key := Zbc (F := fun m r i => Zaa m (L.length : Int) i (s.b 2 3 4 5 6) (L.map fun i : Nat => V.int .i64 (i : Int)) s.log s.votes s.next s.mtch r) (n := L.length) (fun i r => r = out ++ (L.take i).map (addN s.v)) (fun o => o = some (s.b 1 2 3 4 5, s.log, s.votes, s.next, s.mtch, out ++ L.map (addN s.v))) ?_ ?_ (s := out) (by simp)
  · unfold ZaZ
    rw [show Zc (s.sv out) = Zc s.v from rfl, hoth, hL, hM]
    simp only [Option.bind_some]
    rw [Zba, List.length_map]
    have key : Zaa (L.length + 1) (L.length : Int) 0 (s.b 2 3 4 5 6) (L.map fun i : Nat => V.int .i64 (i : Int)) s.log s.votes s.next s.mtch out = _ := key
    exact Eq.trans (congrArg (fun o => Option.bind o _) key) rfl
  · intro m i r hi hI
    have hrl : r.length ≤ 2000 := by rw [hI]; simp; omega
    have hrd : rd (L.map fun i : Nat => V.int .i64 (i : Int)) i = V.int .i64 ((L[i] : Nat) : Int) := by simp [rd, List.getD, hi]
    have es := impl_send_eq (out := r) hW hz (to := L[i]) (hmem _ (List.getElem_mem hi)) (by omega)
    refine .inl ⟨r ++ [addN s.v L[i]], ?_, by rw [hI, List.take_add_one, List.getElem?_eq_getElem hi, List.map_append]; simp⟩
    show Zaa (m + 1) _ (i : Int) _ _ _ _ _ _ _ = _
    rw [Zaa]
    have es' : Zbm (V.agg [(V.int .i64 s.id), (V.int .i64 s.term), (V.int .i64 s.vote), (V.inl Zb s.log), (V.int .i64 s.commit), (V.int .i64 s.role), (V.int .i64 s.lead), (V.int .i64 s.wait), (V.inl Zi s.votes), (V.inl Ze s.next), (V.inl Ze s.mtch), (V.inl Zk r)]) ((L[i] : Nat) : Int) = some (s.sv (r ++ [addN s.v L[i]])) := es
    simp only [ND.b, ZD, ZE, Zbo hi, ZG (show i < (L.map fun i : Nat => V.int .i64 (i : Int)).length by simpa using hi), Int.toNat_natCast, Nat.zero_add, cond_true, hrd, show ∀ (k : IntKind) (x : Int), gi (V.int k x) 0 = x from fun _ _ => rfl, es', Option.bind_some, Za2 hi (show L.length ≤ 9223372036854775807 by omega)]
    rfl
  · intro m r hI
    rw [List.take_length] at hI
    show Zaa (m + 1) _ _ _ _ _ _ _ _ _ = _
    rw [Zaa, ZaW, hI]; rfl
end Go.Eng.R
open Go Go.Eng
namespace Go.Eng.R
end Go.Eng.R
open Go Go.Eng
namespace Go.Eng.R
end Go.Eng.R
open Go Go.Eng
namespace Go.Eng.R
def ownD (n : V) : ND := { ND.of n with log := (gl n 3).map Zp }
theorem clone_bool_eq {l : List V} (h : l.length ≤ 4000000) : Zb0 l = some l := by
  unfold Zb0; rw [roomyB (by omega) (by omega)]; rfl
theorem clone_int_eq {l : List V} (h : l.length ≤ 4000000) : ZbG l = some l := by
  unfold ZbG; rw [roomyB (by omega) (by omega)]; rfl
theorem impl_own_eq {n : V} (hn : Z3 n) (hz : zS Zv (gl n 3) ≤ 4000000) (h8 : (gl n 8).length ≤ 1000) (h9 : (gl n 9).length ≤ 1000) (h10 : (gl n 10).length ≤ 1000) : ZdA (Zc n) = some (ownD n).v := by
  unfold ZdA
  simp only [show gl (Zc n) 3 = gl n 3 from rfl, show gl (Zc n) 8 = gl n 8 from rfl, show gl (Zc n) 9 = gl n 9 from rfl, show gl (Zc n) 10 = gl n 10 from rfl, impl_ownItems_eq hn.2.2.2.1 hz, clone_bool_eq (l := gl n 8) (by omega), clone_int_eq (l := gl n 9) (by omega), clone_int_eq (l := gl n 10) (by omega), Option.bind_some]
  rfl
theorem ownD_W {n : V} (hn : Z3 n) : Z3 (ownD n).v :=
  ⟨hn.1, hn.2.1, hn.2.2.1, LW.map (h := Zp) (fun x hx => hx) hn.2.2.2.1, hn.2.2.2.2.1, hn.2.2.2.2.2.1, hn.2.2.2.2.2.2.1, hn.2.2.2.2.2.2.2.1, hn.2.2.2.2.2.2.2.2.1, hn.2.2.2.2.2.2.2.2.2.1, hn.2.2.2.2.2.2.2.2.2.2⟩
def Nrm (l : List V) : Prop := l.map Zp = l
theorem nrm_map (l : List V) : Nrm (l.map Zp) := by unfold Nrm; rw [List.map_map]; rfl
theorem nrm_append {a b : List V} (ha : Nrm a) (hb : Nrm b) : Nrm (a ++ b) := by unfold Nrm at *; rw [List.map_append, ha, hb]
theorem scanC_le (s : ND) (c : Nat) : ∀ j, ZbN s c j ≤ c + j
  | 0 => Nat.le_refl _
  | j + 1 => by
    have := scanC_le s c j
    simp only [ZbN]
    cases (decide (termL s.log (c + (j + 1)) = s.term) && decide ((s.votes.length : Int) < 2 * ((ZaS (((c + (j + 1) : Nat)) : Int) s.mtch : Nat) : Int))) <;> simp <;> omega
theorem LW_set {w : V → Prop} {l : List V} (h : LW w l) {x : V} (hx : w x) (i : Nat) : LW w (l.set i x) :=
  ⟨by simpa using h.1, fun y hy => (List.mem_or_eq_of_mem_set hy).elim (h.2 y) fun e => e ▸ hx⟩
theorem adv_W {s : ND} (hW : Z3 s.v) (hL : s.log.length ≤ 1000) (hc0 : 0 ≤ s.commit) (hc1 : s.commit ≤ (s.log.length : Int)) : Z3 s.adv.v := by
  have h1 := scanC_le s.mark s.commit.toNat (s.log.length - s.commit.toNat)
  refine ⟨hW.1, hW.2.1, hW.2.2.1, hW.2.2.2.1, ⟨?_, ?_⟩, hW.2.2.2.2.2.1, hW.2.2.2.2.2.2.1, hW.2.2.2.2.2.2.2.1, hW.2.2.2.2.2.2.2.2.1, ?_, ?_⟩
  · show (-9223372036854775808 : Int) ≤ ((ZbN s.mark s.commit.toNat (s.log.length - s.commit.toNat) : Nat) : Int); omega
  · show ((ZbN s.mark s.commit.toNat (s.log.length - s.commit.toNat) : Nat) : Int) ≤ 9223372036854775807; omega
  · exact LW_set (w := W_int) hW.2.2.2.2.2.2.2.2.2.1 ⟨by show (-9223372036854775808 : Int) ≤ ((s.log.length : Nat) : Int) + 1; omega, by show ((s.log.length : Nat) : Int) + 1 ≤ 9223372036854775807; omega⟩ _
  · exact LW_set (w := W_int) hW.2.2.2.2.2.2.2.2.2.2 ⟨by show (-9223372036854775808 : Int) ≤ ((s.log.length : Nat) : Int); omega, by show ((s.log.length : Nat) : Int) ≤ 9223372036854775807; omega⟩ _
theorem ZcW {l : List V} {i j : Nat} (h : j ≠ i) (x : V) : rd (l.set i x) j = rd l j := by simp [rd, List.getD, Ne.symm h]
theorem adv_next {s : ND} (hi0 : 0 ≤ s.id) {i : Nat} (hi : (i : Int) ≠ s.id) (h : NextOk s.v i) : NextOk s.adv.v i := by
  obtain ⟨h1, h2, h3, h4⟩ := h
  have e : rd (gl s.adv.v 9) i = rd (gl s.v 9) i := ZcW (l := s.next) (by omega) _
  refine ⟨?_, by rw [e]; exact h2, by rw [e]; exact h3, h4⟩
  show i < (s.next.set _ _).length
  rw [List.length_set]; exact h1
theorem msgs_W {s : ND} (hW : Z3 s.v) (hv : s.votes.length ≤ 1000) (hN : ∀ i, i < s.votes.length → (i : Int) ≠ s.id → NextOk s.v i) : LW ZbT (ZbO s.v s.votes.length) := by
  refine ⟨by have := msgsN_len s.v s.votes.length; omega, fun m hm => ?_⟩
  obtain ⟨i, hi, rfl⟩ := List.mem_map.1 hm
  obtain ⟨h1, h2⟩ := List.mem_filter.1 hi
  have h1 := List.mem_range.1 h1
  have hne : (i : Int) ≠ gi s.v 0 := by simpa using h2
  exact addN_W hW (hN i h1 hne) (by omega)
theorem sumL_bound {f : V → Nat} {l : List V} {B : Nat} (h : ∀ x ∈ l, f x ≤ B) : Zav f l ≤ l.length * B := by
  induction l with
  | nil => simp [Zav]
  | cons x l ih =>
    have h1 := h x (by simp)
    have h2 := ih fun y hy => h y (by simp [hy])
    simp only [Zav, List.length_cons, Nat.add_mul]; omega
theorem addN_c {n : V} {to : Nat} (hz : zS Zv (gl n 3) ≤ 4000000) : c_Msg (addN n to) ≤ 100000010 := by
  have h1 := addN_ct (n := n) (to := to) hz
  have : c_Msg (addN n to) = 8 + ct_Msg (addN n to) := by simp only [c_Msg, ct_Msg]; omega
  omega
theorem msgs_c {s : ND} (hz : zS Zv s.log ≤ 4000000) {N : Nat} (hv : N ≤ 5) : Zav c_Msg (ZbO s.v N) ≤ 600000000 := by
  have h1 := sumL_bound (f := c_Msg) (l := ZbO s.v N) (B := 100000010) fun m hm => by
    obtain ⟨i, hi, rfl⟩ := List.mem_map.1 hm
    exact addN_c hz
  have h2 := msgsN_len s.v N
  have : (ZbO s.v N).length * 100000010 ≤ 5 * 100000010 := Nat.mul_le_mul_right _ (by omega)
  omega
theorem msgs_own {s : ND} {N : Nat} : (ZbO s.v N).map ownM = ZbO s.v N := by
  unfold ZbO
  rw [List.map_map]
  congr 1
  funext i
  exact ownM_addN _ _
theorem msgs_items {s : ND} (hW : Z3 s.v) (hz : zS Zv s.log ≤ 4000000) {N : Nat} : ∀ m ∈ ZbO s.v N, LW Zb2 (gl m 6) ∧ zS Zv (gl m 6) ≤ 4000000 := by
  intro m hm
  obtain ⟨i, hi, rfl⟩ := List.mem_map.1 hm
  have h6 := itemsN_z (n := s.v) (Zau s.v i)
  exact ⟨itemsN_W hW _, by show zS Zv (Zbp s.v (Zau s.v i)) ≤ _; have : zS Zv (gl s.v 3) ≤ 4000000 := hz; omega⟩
end Go.Eng.R
open Go Go.Eng
namespace Go.Eng.R
structure LeadOk (s : ND) : Prop where
  W : Z3 s.v
  id0 : 0 ≤ s.id
  idn : s.id < (s.mtch.length : Int)
  next : s.next.length = s.mtch.length
  votes : s.votes.length = s.mtch.length
  few : s.mtch.length ≤ 5
  log : s.log.length ≤ 401
  com0 : 0 ≤ s.commit
  com1 : s.commit ≤ (s.log.length : Int)
  size : zS Zv s.log ≤ 4000000
  nexts : ∀ i, i < s.votes.length → (i : Int) ≠ s.id → NextOk s.v i
theorem LeadOk.adv {s : ND} (h : LeadOk s) : Z3 s.adv.v ∧ ∀ i, i < s.adv.votes.length → (i : Int) ≠ s.adv.id → NextOk s.adv.v i :=
  ⟨adv_W h.W (by have := h.log; omega) h.com0 h.com1, fun i hi hne => adv_next h.id0 hne (h.nexts i hi hne)⟩
theorem LeadOk.impl {s : ND} (h : LeadOk s) {out : List V} (ho : out.length ≤ 1000) : (Option.bind (ZaY (s.sv out)) fun r => ZaZ (Zg r)) = some (s.adv.sv (out ++ ZbO s.adv.v s.votes.length)) := by
  have hf := h.few; have hl := h.log
  rw [impl_advance_eq h.id0 h.idn h.next h.votes (by omega) (by omega) h.com0 h.com1, Option.bind_some]
  exact impl_sendAll_eq (s := s.adv) h.adv.1 h.size (show s.votes.length ≤ 1000 by have := h.votes; omega) h.adv.2 ho
theorem zS_append (z : V → Nat) (a b : List V) : zS z (a ++ b) = zS z a + zS z b := by simp only [zS, Zd5, List.length_append]; omega
structure StepOk' (s : ND) (l : List V) : Prop where
  W : Z3 s.v
  nrm : Nrm s.log
  size : zS Zv s.log ≤ 3000000
  votes : s.votes.length ≤ 5
  next : s.next.length ≤ 5
  mtch : s.mtch.length ≤ 5
  own : l.map ownM = l
  few : l.length ≤ 1000
  items : ∀ m ∈ l, LW Zb2 (gl m 6) ∧ zS Zv (gl m 6) ≤ 4000000
  msgs : LW ZbT l
  marks : Zav c_Msg l ≤ 600000000
theorem StepOk'.none {s : ND} (hW : Z3 s.v) (hn : Nrm s.log) (hz : zS Zv s.log ≤ 3000000) (h1 : s.votes.length ≤ 5) (h2 : s.next.length ≤ 5) (h3 : s.mtch.length ≤ 5) : StepOk' s [] :=
  ⟨hW, hn, hz, h1, h2, h3, rfl, by simp, by simp, LW.nil, by decide⟩
theorem StepOk'.led {s : ND} (h : LeadOk s) (hn : Nrm s.log) (hz : zS Zv s.log ≤ 3000000) : StepOk' s.adv (ZbO s.adv.v s.votes.length) := by
  have hv := h.votes; have hf := h.few; have hx := h.next
  have hmw : LW ZbT (ZbO s.adv.v s.votes.length) := msgs_W (s := s.adv) h.adv.1 (show s.votes.length ≤ 1000 by omega) h.adv.2
  have hml := msgsN_len s.adv.v s.votes.length
  exact ⟨h.adv.1, hn, hz, by show s.votes.length ≤ 5; omega, by show (s.next.set _ _).length ≤ 5; rw [List.length_set]; omega, by show (s.mtch.set _ _).length ≤ 5; rw [List.length_set]; omega,
    msgs_own (s := s.adv), by omega, msgs_items (s := s.adv) h.adv.1 (by show zS Zv s.log ≤ _; omega), hmw, msgs_c (s := s.adv) (by show zS Zv s.log ≤ _; omega) (by omega)⟩
structure OwnOk (n : V) (k : Int) (s : ND) : Prop where
  eq : s = ownD n
  p : NodeP n k
  W : Z3 s.v
  nrm : Nrm s.log
  size : zS Zv s.log ≤ 1048576
  len : s.log.length = (gl n 3).length
theorem own_ok {n : V} {k : Int} (hn : Z3 n) (hz : zS Zv (gl n 3) ≤ 1048576) (hp : NodeP n k) : OwnOk n k (ownD n) :=
  ⟨rfl, hp, ownD_W hn, nrm_map _, by rw [show zS Zv (ownD n).log = zS Zv (gl n 3) from zS_map (f := Zv) (g := Zv) (h := Zp) (fun x => rfl) _]; exact hz, List.length_map _⟩
theorem OwnOk.fields {n : V} {k : Int} {s : ND} (h : OwnOk n k s) : s.id = gi n 0 ∧ s.term = gi n 1 ∧ s.vote = gi n 2 ∧ s.commit = gi n 4 ∧ s.role = gi n 5 ∧ s.lead = gi n 6 ∧ s.wait = gi n 7 ∧ s.votes = gl n 8 ∧ s.next = gl n 9 ∧ s.mtch = gl n 10 := by
  rw [h.eq]; exact ⟨rfl, rfl, rfl, rfl, rfl, rfl, rfl, rfl, rfl, rfl⟩
end Go.Eng.R
open Go Go.Eng
namespace Go.Eng.R
def fillTo (l : List V) (x : V) (i : Nat) : List V := List.replicate i x ++ l.drop i
theorem fillTo_len {l : List V} {x : V} {i : Nat} (h : i ≤ l.length) : (fillTo l x i).length = l.length := by simp [fillTo]; omega
theorem fillTo_set {l : List V} {x : V} {i : Nat} (h : i < l.length) : (fillTo l x i).set i x = fillTo l x (i + 1) := by
  unfold fillTo
  rw [List.set_append_right _ _ (by simp), List.length_replicate, Nat.sub_self, List.drop_eq_getElem_cons h, List.set_cons_zero, List.replicate_succ', List.append_assoc, List.singleton_append]
theorem fillTo_all (l : List V) (x : V) : fillTo l x l.length = List.replicate l.length x := by simp [fillTo]
def cntT : List V → Nat
  | [] => 0
  | x :: l => (bif gb x 0 then 1 else 0) + cntT l
theorem cntT_append (a b : List V) : cntT (a ++ b) = cntT a + cntT b := by induction a <;> simp_all [cntT]; omega
theorem cntT_succ {l : List V} {i : Nat} (h : i < l.length) : cntT (l.take (i + 1)) = cntT (l.take i) + (bif gb (rd l i) 0 then 1 else 0) := by
  rw [take_rd h, cntT_append]; simp [cntT]
theorem cntT_le (l : List V) : cntT l ≤ l.length := by
  induction l with
  | nil => simp [cntT]
  | cons x l ih => simp only [cntT, List.length_cons]; cases gb x 0 <;> simp <;> omega
theorem impl_votes_run {s : ND} {out : List V} (hl : s.votes.length ≤ 1000) : Zai (s.votes.length + 1) 0 (s.votes.length : Int) 0 (s.b 2 1 3 4 5) s.votes s.log s.next s.mtch out =
    some (((cntT s.votes : Nat) : Int), s.b 1 2 3 4 5, s.log, s.votes, s.next, s.mtch, out) := by
  refine Zbc (F := fun m c i => Zai m c (s.votes.length : Int) i (s.b 2 1 3 4 5) s.votes s.log s.next s.mtch out) (n := s.votes.length) (fun i c => c = ((cntT (s.votes.take i) : Nat) : Int)) (fun o => o = some (((cntT s.votes : Nat) : Int), s.b 1 2 3 4 5, s.log, s.votes, s.next, s.mtch, out)) ?_ ?_ (by simp [cntT])
  · intro m i c hi hI
    have hle := cntT_le (s.votes.take i)
    simp only [List.length_take] at hle
    refine .inl ⟨_, ?_, (rfl : ((cntT (s.votes.take (i + 1)) : Nat) : Int) = ((cntT (s.votes.take (i + 1)) : Nat) : Int))⟩
    show Zai (m + 1) c _ (i : Int) _ _ _ _ _ _ = _
    rw [Zai, cntT_succ hi]
    simp only [Zbo hi, ZG hi, Int.toNat_natCast, Nat.zero_add, cond_true, Za2 hi (show s.votes.length ≤ 9223372036854775807 by omega)]
    cases h : gb (rd s.votes i) 0 with
    | true =>
      simp only [cond_true]
      rw [ZW (by omega) (by omega), hI, show ((cntT (s.votes.take i) : Nat) : Int) + 1 = ((cntT (s.votes.take i) + 1 : Nat) : Int) from by omega]
      rfl
    | false =>
      simp only [cond_false, Nat.add_zero]
      rw [hI]; rfl
  · intro m c hI
    rw [List.take_length] at hI
    show Zai (m + 1) c _ _ _ _ _ _ _ _ = _
    rw [Zai, ZaW, hI]; rfl
def nextX (s : ND) : V := V.int .i64 (((s.log.length : Nat) : Int) + 1)
def ND.fresh (s : ND) : ND := { s with next := List.replicate s.next.length (nextX s), mtch := List.replicate s.mtch.length (V.int .i64 0) }
theorem impl_fresh_run {s : ND} {out : List V} (hl : s.next.length ≤ 1000) (hL : s.log.length ≤ 1000) (hm : s.mtch.length = s.next.length) : Zao (s.next.length + 1) (s.next.length : Int) 0 (s.b 1 2 3 4 5) s.log s.votes s.next s.mtch out =
    some (s.b 1 2 3 4 5, s.log, s.votes, s.fresh.next, s.fresh.mtch, out) := by
  refine Zbc (F := fun m (r : List V × List V) i => Zao m (s.next.length : Int) i (s.b 1 2 3 4 5) s.log s.votes r.1 r.2 out) (n := s.next.length) (fun i r => r = (fillTo s.next (nextX s) i, fillTo s.mtch (V.int .i64 0) i)) (fun o => o = some (s.b 1 2 3 4 5, s.log, s.votes, s.fresh.next, s.fresh.mtch, out)) ?_ ?_ (s := (s.next, s.mtch)) rfl
  · intro m i r hi hI
    subst hI
    refine .inl ⟨_, ?_, rfl⟩
    show Zao (m + 1) _ (i : Int) _ _ _ _ _ _ = _
    rw [Zao, ← fillTo_set hi, ← fillTo_set (l := s.mtch) (by omega)]
    rw [show Zq ((i : Nat) : Int) (fillTo s.next (nextX s) i).length = true from ZG (by rw [fillTo_len (by omega)]; exact hi), show Zq ((i : Nat) : Int) (fillTo s.mtch (V.int .i64 0) i).length = true from ZG (by rw [fillTo_len (by omega)]; omega)]
    simp only [Zbo hi, Int.toNat_natCast, Nat.zero_add, cond_true, Za2 hi (show s.next.length ≤ 9223372036854775807 by omega)]
    rw [ZW (n := ((s.log.length : Nat) : Int) + 1) (by omega) (by omega)]
    rfl
  · intro m r hI
    subst hI
    show Zao (m + 1) _ _ _ _ _ _ _ _ = _
    have e2 : fillTo s.mtch (V.int .i64 0) s.next.length = List.replicate s.mtch.length (V.int .i64 0) := by rw [← hm]; exact fillTo_all _ _
    rw [Zao, ZaW, fillTo_all, e2]; rfl
def Zb5 (t : Int) : V := V.agg [(V.int .i64 t), (V.int .i64 (-1)), (V.int .i64 0), (V.int .i64 0), (V.inl Zf []), (V.inl Zf []), (V.int .i64 0)]
def ND.lead' (s : ND) : ND := { s.fresh with role := 2, lead := s.id, wait := 0, log := bif decide (((s.log.length : Nat) : Int) < 400) then s.log ++ [Zb5 s.term] else s.log }
structure CandOk (s : ND) : Prop where
  W : Z3 s.v
  id0 : 0 ≤ s.id
  idn : s.id < (s.mtch.length : Int)
  next : s.next.length = s.mtch.length
  votes : s.votes.length = s.mtch.length
  few : s.mtch.length ≤ 5
  log : s.log.length ≤ 400
  com0 : 0 ≤ s.commit
  com1 : s.commit ≤ (s.log.length : Int)
  size : zS Zv s.log ≤ 2000000
  nrm : Nrm s.log
theorem LW_rep' {w : V → Prop} {x : V} {k : Nat} (h : w x) (hk : k ≤ 1000) : LW w (List.replicate k x) := LW_rep h (by omega)
set_option maxRecDepth 100000 in
theorem CandOk.leadLog {s : ND} (h : CandOk s) : s.lead'.log.length ≤ s.log.length + 1 ∧ s.log.length ≤ s.lead'.log.length ∧ s.lead'.log.length ≤ 400 ∧ zS Zv s.lead'.log ≤ 3000000 ∧ Nrm s.lead'.log ∧ LW Zb2 s.lead'.log := by
  have hz := h.size; have hW := h.W; have hl := h.log
  show (bif decide (((s.log.length : Nat) : Int) < 400) then s.log ++ [Zb5 s.term] else s.log).length ≤ _ ∧ _ ≤ (bif decide (((s.log.length : Nat) : Int) < 400) then s.log ++ [Zb5 s.term] else s.log).length ∧ (bif decide (((s.log.length : Nat) : Int) < 400) then s.log ++ [Zb5 s.term] else s.log).length ≤ 400 ∧
    zS Zv (bif decide (((s.log.length : Nat) : Int) < 400) then s.log ++ [Zb5 s.term] else s.log) ≤ _ ∧ Nrm (bif decide (((s.log.length : Nat) : Int) < 400) then s.log ++ [Zb5 s.term] else s.log) ∧ LW Zb2 (bif decide (((s.log.length : Nat) : Int) < 400) then s.log ++ [Zb5 s.term] else s.log)
  by_cases hc : ((s.log.length : Nat) : Int) < 400
  · simp only [hc, decide_true, cond_true]
    have hll : (s.log ++ [Zb5 s.term]).length = s.log.length + 1 := by rw [List.length_append, List.length_singleton]
    have hsz : zS Zv [Zb5 s.term] = 1 := rfl
    refine ⟨by omega, by omega, by omega, by rw [zS_append, hsz]; omega, nrm_append h.nrm rfl, by rw [hll]; omega, fun x hx => ?_⟩
    rcases List.mem_append.1 hx with hx | hx
    · exact hW.2.2.2.1.2 x hx
    · obtain rfl := List.mem_singleton.1 hx
      exact ⟨hW.2.1, I64_m1, I64_0, I64_0, LW.nil, LW.nil, I64_0⟩
  · simp only [hc, decide_false, cond_false]
    exact ⟨by omega, by omega, by omega, by omega, h.nrm, hW.2.2.2.1⟩
set_option maxRecDepth 100000 in
theorem CandOk.leads {s : ND} (h : CandOk s) : LeadOk s.lead' := by
  obtain ⟨l1, l2, l3, l4, l5, l6⟩ := h.leadLog
  have hW := h.W; have hf := h.few; have hn := h.next; have hv := h.votes; have c0 := h.com0; have c1 := h.com1; have hl := h.log
  have hnl : s.lead'.next.length = s.next.length := List.length_replicate
  have hml : s.lead'.mtch.length = s.mtch.length := List.length_replicate
  refine ⟨⟨hW.1, hW.2.1, hW.2.2.1, l6, hW.2.2.2.2.1, (show I64 2 from ⟨by decide, by decide⟩), hW.1, I64_0, hW.2.2.2.2.2.2.2.2.1, ?_, ?_⟩, h.id0, by rw [hml]; exact h.idn, by rw [hnl, hml]; exact hn, by rw [hml]; exact hv, by rw [hml]; exact hf, by omega, c0, by show s.commit ≤ _; omega, by omega, fun i hi hne => ?_⟩
  · exact LW_rep' (w := W_int) (x := nextX s) ⟨by show (-9223372036854775808 : Int) ≤ ((s.log.length : Nat) : Int) + 1; omega, by show ((s.log.length : Nat) : Int) + 1 ≤ 9223372036854775807; omega⟩ (by omega)
  · exact LW_rep' (w := W_int) (x := V.int .i64 0) I64_0 (by omega)
  · have hi : i < s.votes.length := hi
    have hi2 : i < s.next.length := by rw [hn, ← hv]; exact hi
    have e : rd (List.replicate s.next.length (nextX s)) i = nextX s := by simp [rd, List.getD, hi2]
    refine ⟨by show i < (List.replicate s.next.length (nextX s)).length; rw [List.length_replicate]; exact hi2, ?_, ?_, by show s.lead'.log.length ≤ 401; omega⟩
    · show 1 ≤ gi (rd (List.replicate s.next.length (nextX s)) i) 0
      rw [e]; show (1 : Int) ≤ ((s.log.length : Nat) : Int) + 1; omega
    · show gi (rd (List.replicate s.next.length (nextX s)) i) 0 ≤ ((s.lead'.log.length : Nat) : Int) + 1
      rw [e]; show ((s.log.length : Nat) : Int) + 1 ≤ _; omega
def mostB (s : ND) : Bool := decide (((s.votes.length : Nat) : Int) < 2 * ((cntT s.votes : Nat) : Int))
set_option maxRecDepth 100000 in
theorem impl_lead_eq {s : ND} (h : CandOk s) {out : List V} (ho : out.length ≤ 1000) : Zcl (s.sv out) = some (bif mostB s then s.lead'.adv.sv (out ++ ZbO s.lead'.adv.v s.votes.length) else s.sv out) := by
  have hf := h.few; have hn := h.next; have hv := h.votes; have hl := h.log
  have hcl := cntT_le s.votes
  have e1 := impl_votes_run (s := s) (out := out) (by omega)
  have e2 := impl_fresh_run (s := ({ s with role := 2, lead := s.id, wait := 0 } : ND)) (out := out) (show s.next.length ≤ 1000 by omega) (show s.log.length ≤ 1000 by omega) (show s.mtch.length = s.next.length by omega)
  have e3 := h.leads.impl ho
  obtain ⟨r1, p0, p1⟩ := Option.bind_eq_some_iff.1 e3
  unfold Zcl
  rw [show gl (s.sv out) 8 = s.votes from rfl, Zba]
  refine Eq.trans (congrArg (fun o => Option.bind o _) e1) ?_
  simp only [Option.bind_some, ZcS]
  rw [ZW (n := 2 * ((cntT s.votes : Nat) : Int)) (by omega) (by omega)]
  by_cases hm : ((s.votes.length : Nat) : Int) < 2 * ((cntT s.votes : Nat) : Int)
  case neg =>
    rw [show mostB s = false from decide_eq_false hm]
    simp only [ZH, ZI, hm, decide_false, Bool.not_false, cond_true, cond_false]
    rfl
  case pos =>
    rw [show mostB s = true from decide_eq_true hm]
    simp only [ZH, ZI, hm, decide_true, Bool.not_true, cond_false, cond_true, Zba]
    refine Eq.trans (congrArg (fun o => Option.bind o _) e2) ?_
    simp only [Option.bind_some]
    by_cases hc : ((s.log.length : Nat) : Int) < 400
    · have hlog : s.lead'.log = s.log ++ [Zb5 s.term] := by show (bif decide (((s.log.length : Nat) : Int) < 400) then _ else _) = _; rw [decide_eq_true hc]; rfl
      simp only [hc, decide_true, cond_true]
      rw [roomyB (n := s.log.length + 1) (by omega) (by omega)]
      simp only [cond_true]
      refine Eq.trans (congrArg (fun o => Option.bind o _) (show _ = some r1 from ?_)) ?_
      · rw [← p0]; unfold ND.sv; rw [hlog]; rfl
      · simp only [Option.bind_some, p1]; rfl
    · have hlog : s.lead'.log = s.log := by show (bif decide (((s.log.length : Nat) : Int) < 400) then _ else _) = _; rw [decide_eq_false hc]; rfl
      simp only [hc, decide_false, cond_false]
      refine Eq.trans (congrArg (fun o => Option.bind o _) (show _ = some r1 from ?_)) ?_
      · rw [← p0]; unfold ND.sv; rw [hlog]; rfl
      · simp only [Option.bind_some, p1]; rfl
end Go.Eng.R
open Go Go.Eng
namespace Go.Eng.R
def ND.clr (s : ND) : ND := { s with role := 0, votes := List.replicate s.votes.length (V.bool false), next := List.replicate s.next.length (V.int .i64 0), mtch := List.replicate s.mtch.length (V.int .i64 0) }
def ND.fol (s : ND) (t : Int) : ND := bif decide (s.term < t) then ({ s with term := t, vote := -1, lead := -1 } : ND).clr else s.clr
theorem impl_follow_eq (s : ND) (out : List V) (t : Int) : Zd (s.sv out) t = (s.fol t).sv out := by
  unfold Zd ND.fol
  have e8 : (gl (s.sv out) 8).drop (0 + (gl (s.sv out) 8).length) = [] := by simp
  have e9 : (gl (s.sv out) 9).drop (0 + (gl (s.sv out) 9).length) = [] := by simp
  have e10 : (gl (s.sv out) 10).drop (0 + (gl (s.sv out) 10).length) = [] := by simp
  rw [e8, e9, e10, show gi (s.sv out) 1 = s.term from rfl]
  simp only [List.append_nil]
  cases decide (s.term < t) <;> rfl
set_option maxRecDepth 100000 in
theorem StepOk'.cand {s : ND} (h : CandOk s) : StepOk' (bif mostB s then s.lead'.adv else s) (bif mostB s then ZbO s.lead'.adv.v s.votes.length else []) := by
  have hf := h.few; have hn := h.next; have hv := h.votes; have hz := h.size; have hl := h.log
  cases mostB s with
  | true =>
    obtain ⟨l1, l2, l3, l4, l5, l6⟩ := h.leadLog
    exact StepOk'.led h.leads l5 l4
  | false =>
    show StepOk' s []
    exact StepOk'.none h.W h.nrm (by omega) (by omega) (by omega) (by omega)
end Go.Eng.R
open Go Go.Eng
namespace Go.Eng.R
def ptm (m : V) (i : Nat) : Int := if i = 0 then gi m 5 else gi (rd (gl m 6) (i - 1)) 0
theorem ptm_succ (m : V) (i : Nat) : ptm m (i + 1) = gi (rd (gl m 6) i) 0 := by simp [ptm]
def stepM (m : V) (i : Nat) : Bool := Za4 (rd (gl m 6) i) && (decide (ptm m i ≤ gi (rd (gl m 6) i) 0) && decide (gi (rd (gl m 6) i) 0 ≤ gi m 3))
def itemsOkB (m : V) : Bool := (List.range (gl m 6).length).all (stepM m)
theorem impl_msgItems_run {m : V} (hm : ZbT m) : Zz ((gl m 6).length + 1) (gi m 5) (gl m 6) (((gl m 6).length : Nat) : Int) 0 (Zj m) =
    bif itemsOkB m then some (1, false, Zj m) else some (0, false, Zj m) := by
  have hl := hm.2.2.2.2.2.2.1.1
  refine all_run (F := fun k t i => Zz k t (gl m 6) (((gl m 6).length : Nat) : Int) i (Zj m)) (fun i t => t = ptm m i) (fun k i t hi ht => ?_) (fun k t ht => ?_) rfl
  · subst ht
    have e : ZcN (Zp (rd (gl m 6) i)) = some (Za4 (rd (gl m 6) i)) := impl_ItemOk_eq (x := Zp (rd (gl m 6) i)) (hm.2.2.2.2.2.2.1.rd hi)
    have e0 : Zz (k + 1) (ptm m i) (gl m 6) (((gl m 6).length : Nat) : Int) i (Zj m) = bif (!(Za4 (rd (gl m 6) i))) then some (0, false, Zj m) else bif (!(decide (ptm m i ≤ gi (rd (gl m 6) i) 0 ∧ gi (rd (gl m 6) i) 0 ≤ gi m 3))) then some (0, false, Zj m)
        else Zz k (gi (rd (gl m 6) i) 0) (gl m 6) (((gl m 6).length : Nat) : Int) ((i + 1 : Nat) : Int) (Zj m) := by
      rw [Zz]
      simp only [Zbo hi, ZG hi, Int.toNat_natCast, cond_true, e, Option.bind_some, Za2 hi hl, Zbe]
      rfl
    unfold stepM
    cases hit : Za4 (rd (gl m 6) i) with
    | false => exact .inr ⟨rfl, by show Zz (k + 1) _ _ _ _ _ = _; rw [e0, hit]; rfl⟩
    | true =>
      rw [hit] at e0
      by_cases h1 : ptm m i ≤ gi (rd (gl m 6) i) 0 ∧ gi (rd (gl m 6) i) 0 ≤ gi m 3
      · refine .inl ⟨by rw [decide_eq_true h1.1, decide_eq_true h1.2]; rfl, gi (rd (gl m 6) i) 0, ?_, ?_⟩
        · show Zz (k + 1) _ _ _ _ _ = _; rw [e0, decide_eq_true h1]; rfl
        · simp [ptm]
      · refine .inr ⟨?_, by show Zz (k + 1) _ _ _ _ _ = _; rw [e0, decide_eq_false h1]; rfl⟩
        by_cases h2 : ptm m i ≤ gi (rd (gl m 6) i) 0
        · rw [decide_eq_true h2, decide_eq_false (fun h => h1 ⟨h2, h⟩)]; rfl
        · rw [decide_eq_false h2]; rfl
  · show Zz (k + 1) _ _ _ _ (Zj m) = _
    rw [Zz, ZaW]; rfl
structure MsgP (m : V) : Prop where
  kind0 : 0 ≤ gi m 0
  kind3 : gi m 0 ≤ 3
  from0 : 0 ≤ gi m 1
  from4 : gi m 1 < 5
  to0 : 0 ≤ gi m 2
  to4 : gi m 2 < 5
  ne : gi m 1 ≠ gi m 2
  term1 : 1 ≤ gi m 3
  termM : gi m 3 ≤ 100000
  prev0 : 0 ≤ gi m 4
  prevM : gi m 4 ≤ 400
  pt0 : 0 ≤ gi m 5
  ptT : gi m 5 ≤ gi m 3
  com0 : 0 ≤ gi m 7
  comM : gi m 7 ≤ 400
  len4 : ((gl m 6).length : Int) ≤ 4
  lenP : ((gl m 6).length : Int) ≤ 400 - gi m 4
  zero : gi m 0 = 0 ∨ gi m 0 = 2 → (gi m 4 = 0 ↔ gi m 5 = 0)
  items : itemsOkB m = true
  ask : gi m 0 = 0 → (gl m 6).length = 0 ∧ gi m 7 = 0 ∧ gb m 8 = false
  vote : gi m 0 = 1 → gi m 4 = 0 ∧ gi m 5 = 0 ∧ (gl m 6).length = 0 ∧ gi m 7 = 0
  add : gi m 0 = 2 → gb m 8 = false
  ack : gi m 0 = 3 → gi m 5 = 0 ∧ (gl m 6).length = 0 ∧ gi m 7 = 0
noncomputable def msgB (m : V) : Bool := @decide (MsgP m) (Classical.propDecidable _)
theorem Zaf {m : V} (h : MsgP m → False) : msgB m = false := @decide_eq_false _ (Classical.propDecidable _) h
theorem msgB_true {m : V} (h : MsgP m) : msgB m = true := @decide_eq_true _ (Classical.propDecidable _) h
theorem msgB_p {m : V} (h : msgB m = true) : MsgP m := @of_decide_eq_true _ (Classical.propDecidable _) h
theorem chkT {c b : Bool} {rest : Option Bool} (h1 : c = false → b = false) (h2 : c = true → rest = some b) : (bif c then rest else some false) = some b := by
  cases c with
  | false => rw [h1 rfl]; rfl
  | true => exact h2 rfl
end Go.Eng.R
open Go Go.Eng
namespace Go.Eng.R
end Go.Eng.R
