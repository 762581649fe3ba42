/- An own evaluator of the program's form, proved sound, and what it says of this law's functions: part 8. -/
import Derived.Test.YtpcbeplajmkgpaaGreatE7
set_option linter.unusedVariables false

open Go Go.Eng Go.Proofs
namespace Go.Eng.R
noncomputable def c77 : Cfg := Zaz (P := Tryz.prog) (tab := tab) [] false []
def a77_0 (r_ : List V × Int) : List (Ex × St) := [((Ex.exit 0), (⟨[(0, (V.inl Zb r_.1)), (3, (vi r_.2))], [], 0, []⟩ : St))]
def s77_0 : SS := ⟨[(0, (.one (.inl Zb))), (3, (.one (.int .i64))), (4, (.one (.int .i64)))], [], 0, []⟩
noncomputable def l77_0 : LE := le0 3 s77_0 (fun st => ZbG ((((((sv st 0).L).length : Nat) : Int) - ((sv st 2).I)).toNat + 1) ((sv st 0).L) ((sv st 1).I) ((sv st 2).I)) a77_0
noncomputable def L77 : Loops := ⟨fun k => (look [(3, [0, 3, 4])] k).getD [], fun _ => [], fun k => (look [(3, [0, 3])] k).getD [], Zcx [l77_0], [], fun _ => []⟩
theorem t77_0 (k_ : Nat) : ∀ (code0 : List V) (h3 : Int) (i4 : Int), Agr id (pk0 a77_0) (ZbG k_ code0 h3 i4) (ZZ c77 L77 (lpB Tryz.f77 0) k_ (s77_0.mk' (stv [V.inl 0 code0, vi h3, vi i4] []))) := by
  induction k_ with
  | zero => exact fun _ _ _ => g0
  | succ k_ ih => exact fun _ _ _ => gA (g1 (g1 (g1 (ih _ _ _) g0) g4) g4) (by kernel_rfl)
theorem o77 : ZJ c77 L77 (Z2 Tryz.f77) := GoodAll.ok (l := [l77_0]) (.cons 0 (by kernel_rfl) (gd0 (fun st => (((((sv st 0).L).length : Nat) : Int) - ((sv st 2).I)).toNat + 1) (fun st => t77_0 _ _ _ _) fun st => by kernel_rfl) (.nil)) rfl
noncomputable def e77 : En Tryz.prog tab := enP base [] false [] Tryz.func77 (L := L77) o77 [(.one (.inl Zb))] (fun a => Zek ((rd a 0).L)) (fun r_ : V => ((V.nb ZL (l0 r_)), [])) [[(.inl Zb)]] [] [some Zb] false (by kernel_rfl) fun _ => gA (g2 fun _ => g4) (by kernel_rfl)
noncomputable def e154 : En Tryz.prog tab := enP base [] false [] Tryz.func154 Zar [(.rf ZL [(.inl Zb), (.int .i64), (.int .i64)])] (fun a => ZbQ ((rd a 0).unbox)) (fun r_ : Int × V => ((vi r_.1), [(V.rf ZL (l0 r_.2))])) [] [[(.inl Zb)]] [none] false (by kernel_rfl) fun _ => gA (g1 (g1 g4 g0) g4) (by kernel_rfl)
set_option maxRecDepth 100000 in
noncomputable def e78 : En Tryz.prog tab := enP base [e154] false [] Tryz.func78 Zar [(.rf ZL [(.inl Zb), (.int .i64), (.int .i64)]), (.one (.int .i64))] (fun a => Zh ((rd a 0).unbox) ((rd a 1).I)) (fun r_ : Int × V => ((vi r_.1), [(V.rf ZL (l0 r_.2))])) [] [[(.inl Zb)]] [none, none] false (by kernel_rfl) fun _ => gA (g1 g4 (g1 (g2 fun _ => g1 g4 g0) (g2 fun _ => g2 fun _ => g2 fun _ => g2 fun _ => g1 g4 g0))) (by kernel_rfl)
noncomputable def e114 : En Tryz.prog tab := enP base [e78] false [] Tryz.func114 Zar [(.rf ZL [(.inl Zb), (.int .i64), (.int .i64)]), (.one (.inl t_int'))] (fun a => ZQ ((rd a 0).unbox) ((rd a 1).L)) (fun r_ : Int × V => ((vi r_.1), [(V.rf ZL (l0 r_.2))])) [] [[(.inl Zb)]] [none, some t_int'] false (by kernel_rfl) fun _ => gA (g2 fun _ => g1 g4 g0) (by kernel_rfl)
noncomputable def e235 : En Tryz.prog tab := enP base [e78] false [] Tryz.func235 Zar [(.rf ZL [(.inl Zb), (.int .i64), (.int .i64)])] (fun a => ZbU ((rd a 0).unbox)) (fun r_ : List V × V => ((V.inl Zb r_.1), [(V.rf ZL (l0 r_.2))])) [[(.inl Zb)]] [[(.inl Zb)]] [none] false (by kernel_rfl) fun _ => gA (g2 fun _ => g1 g4 g0) (by kernel_rfl)
noncomputable def e219 : En Tryz.prog tab := enP base [e78] false [1000000007] Tryz.func219 Zar [(.rf ZL [(.inl Zb), (.int .i64), (.int .i64)])] (fun a => ZaY ((rd a 0).unbox)) (fun r_ : List V × V => ((V.rr Zb true r_.1), [(V.rf ZL (l0 r_.2))])) [[(.rr Zb true)]] [[(.inl Zb)]] [none] false (by kernel_rfl) fun _ => gA (g2 fun _ => g1 (g1 g4 g0) g0) (by kernel_rfl)
set_option maxRecDepth 100000 in
noncomputable def e203 : En Tryz.prog tab := enP base [e114, e235, e219, e78] false [] Tryz.func203 Zar [(.rf ZL [(.inl Zb), (.int .i64), (.int .i64)]), (.one (.int .i64))] (fun a => ZfL ((rd a 0).unbox) ((rd a 1).I)) (fun r_ : V × V => ((h1 r_.1), [(V.rf ZL (l0 r_.2))])) [[.dead, (.rr Zb true), (.inl Zb)]] [[(.inl Zb)]] [none, none] false (by kernel_rfl) fun _ => gA (g2 fun _ => g1 (g2 fun _ => g1 (g1 (g1 (g2 fun _ => g1 (g2 fun _ => g4) (g1 (g2 fun _ => g2 fun _ => g4) (g1 (g2 fun _ => g1 (g2 fun _ => g4) g4) (g1 (g2 fun _ => g1 (g2 fun _ => g4) g4) (g1 (g2 fun _ => g1 (g2 fun _ => g4) g4) g4))))) (g1 (g2 fun _ => g4) (g1 (g2 fun _ => g2 fun _ => g4) (g1 (g2 fun _ => g1 (g2 fun _ => g4) g4) (g1 (g2 fun _ => g1 (g2 fun _ => g4) g4) (g1 (g2 fun _ => g1 (g2 fun _ => g4) g4) g4)))))) (g1 (g2 fun _ => g4) (g1 (g2 fun _ => g2 fun _ => g4) (g1 (g2 fun _ => g1 (g2 fun _ => g4) g4) (g1 (g2 fun _ => g1 (g2 fun _ => g4) g4) (g1 (g2 fun _ => g1 (g2 fun _ => g4) g4) g4)))))) (g1 (g2 fun _ => g4) (g1 (g2 fun _ => g2 fun _ => g4) (g1 (g2 fun _ => g1 (g2 fun _ => g4) g4) (g1 (g2 fun _ => g1 (g2 fun _ => g4) g4) (g1 (g2 fun _ => g1 (g2 fun _ => g4) g4) g4)))))) (g1 (g2 fun _ => g1 (g1 (g1 (g2 fun _ => g1 (g2 fun _ => g4) (g1 (g2 fun _ => g2 fun _ => g4) (g1 (g2 fun _ => g1 (g2 fun _ => g4) g4) (g1 (g2 fun _ => g1 (g2 fun _ => g4) g4) (g1 (g2 fun _ => g1 (g2 fun _ => g4) g4) g4))))) (g1 (g2 fun _ => g4) (g1 (g2 fun _ => g2 fun _ => g4) (g1 (g2 fun _ => g1 (g2 fun _ => g4) g4) (g1 (g2 fun _ => g1 (g2 fun _ => g4) g4) (g1 (g2 fun _ => g1 (g2 fun _ => g4) g4) g4)))))) (g1 (g2 fun _ => g4) (g1 (g2 fun _ => g2 fun _ => g4) (g1 (g2 fun _ => g1 (g2 fun _ => g4) g4) (g1 (g2 fun _ => g1 (g2 fun _ => g4) g4) (g1 (g2 fun _ => g1 (g2 fun _ => g4) g4) g4)))))) (g1 (g2 fun _ => g4) (g1 (g2 fun _ => g2 fun _ => g4) (g1 (g2 fun _ => g1 (g2 fun _ => g4) g4) (g1 (g2 fun _ => g1 (g2 fun _ => g4) g4) (g1 (g2 fun _ => g1 (g2 fun _ => g4) g4) g4)))))) (g1 (g2 fun _ => g1 (g1 (g1 (g2 fun _ => g1 (g2 fun _ => g4) (g1 (g2 fun _ => g2 fun _ => g4) (g1 (g2 fun _ => g1 (g2 fun _ => g4) g4) (g1 (g2 fun _ => g1 (g2 fun _ => g4) g4) (g1 (g2 fun _ => g1 (g2 fun _ => g4) g4) g4))))) (g1 (g2 fun _ => g4) (g1 (g2 fun _ => g2 fun _ => g4) (g1 (g2 fun _ => g1 (g2 fun _ => g4) g4) (g1 (g2 fun _ => g1 (g2 fun _ => g4) g4) (g1 (g2 fun _ => g1 (g2 fun _ => g4) g4) g4)))))) (g1 (g2 fun _ => g4) (g1 (g2 fun _ => g2 fun _ => g4) (g1 (g2 fun _ => g1 (g2 fun _ => g4) g4) (g1 (g2 fun _ => g1 (g2 fun _ => g4) g4) (g1 (g2 fun _ => g1 (g2 fun _ => g4) g4) g4)))))) (g1 (g2 fun _ => g4) (g1 (g2 fun _ => g2 fun _ => g4) (g1 (g2 fun _ => g1 (g2 fun _ => g4) g4) (g1 (g2 fun _ => g1 (g2 fun _ => g4) g4) (g1 (g2 fun _ => g1 (g2 fun _ => g4) g4) g4)))))) (g1 (g1 (g1 (g2 fun _ => g1 (g2 fun _ => g4) (g1 (g2 fun _ => g2 fun _ => g4) (g1 (g2 fun _ => g1 (g2 fun _ => g4) g4) (g1 (g2 fun _ => g1 (g2 fun _ => g4) g4) (g1 (g2 fun _ => g1 (g2 fun _ => g4) g4) g4))))) (g1 (g2 fun _ => g4) (g1 (g2 fun _ => g2 fun _ => g4) (g1 (g2 fun _ => g1 (g2 fun _ => g4) g4) (g1 (g2 fun _ => g1 (g2 fun _ => g4) g4) (g1 (g2 fun _ => g1 (g2 fun _ => g4) g4) g4)))))) (g1 (g2 fun _ => g4) (g1 (g2 fun _ => g2 fun _ => g4) (g1 (g2 fun _ => g1 (g2 fun _ => g4) g4) (g1 (g2 fun _ => g1 (g2 fun _ => g4) g4) (g1 (g2 fun _ => g1 (g2 fun _ => g4) g4) g4)))))) (g1 (g2 fun _ => g4) (g1 (g2 fun _ => g2 fun _ => g4) (g1 (g2 fun _ => g1 (g2 fun _ => g4) g4) (g1 (g2 fun _ => g1 (g2 fun _ => g4) g4) (g1 (g2 fun _ => g1 (g2 fun _ => g4) g4) g4))))))))) (by kernel_rfl)
noncomputable def e80 : En Tryz.prog tab := enP base [e78] false [] Tryz.func80 Zar [(.rf ZL [(.inl Zb), (.int .i64), (.int .i64)]), (.one (.int .i64))] (fun a => ZaL ((rd a 0).unbox) ((rd a 1).I)) (fun r_ : Bool × V => ((V.bool r_.1), [(V.rf ZL (l0 r_.2))])) [] [[(.inl Zb)]] [none, none] false (by kernel_rfl) fun _ => gA (g2 fun _ => g4) (by kernel_rfl)
set_option maxRecDepth 100000 in
noncomputable def e155 : En Tryz.prog tab := enP base [e203, e80, e78, e114] false [] Tryz.func155 Zar [(.rf ZL [(.inl Zb), (.int .i64), (.int .i64)])] (fun a => ZdP ((rd a 0).unbox)) (fun r_ : V × V => ((h1 r_.1), [(V.rf ZL (l0 r_.2))])) [[.dead, (.rr Zb true), (.inl Zb)]] [[(.inl Zb)]] [none] false (by kernel_rfl) fun _ => gA (g2 fun _ => g2 fun _ => g1 (g2 fun _ => g1 (g2 fun _ => g4) (g1 (g1 g4 g0) (g1 (g2 fun _ => g1 g4 g0) (g2 fun _ => g4)))) g4) (by kernel_rfl)
set_option maxRecDepth 100000 in
noncomputable def e79 : En Tryz.prog tab := enP base [e78, e155, e80, e114] false [] Tryz.func79 Zar [(.rf ZL [(.inl Zb), (.int .i64), (.int .i64)])] (fun a => ZdA ((rd a 0).unbox)) (fun r_ : V × V => ((h2 r_.1), [(V.rf ZL (l0 r_.2))])) [q3] [[(.inl Zb)]] [none] false (by kernel_rfl) fun _ => gA (g2 fun _ => g2 fun _ => g2 fun _ => g2 fun _ => g1 (g2 fun _ => g1 (g2 fun _ => g2 fun _ => g1 (g2 fun _ => g4) g4) (g2 fun _ => g1 (g2 fun _ => g4) g4)) (g2 fun _ => g1 (g2 fun _ => g2 fun _ => g1 (g2 fun _ => g4) g4) (g2 fun _ => g1 (g2 fun _ => g4) g4))) (by kernel_rfl)
noncomputable def e133 : En Tryz.prog tab := enT base [] false [] Tryz.func133 Zar [(.one (.inl Zb))] (fun a => ZgS ((rd a 0).L)) (fun r_ : Bool => ((V.bool r_), [])) [] [] [some Zb] false (by kernel_rfl) fun _ => gT g7 (by kernel_rfl)
noncomputable def e132 : En Tryz.prog tab := enT base [] false [] Tryz.func132 Zar [(.one (.int .i64))] (fun a => Zfv ((rd a 0).I)) (fun r_ : Bool => ((V.bool r_), [])) [] [] [none] false (by kernel_rfl) fun _ => gT (g5 g7 g7) (by kernel_rfl)
noncomputable def c129 : Cfg := Zaz (P := Tryz.prog) (tab := tab) [] false []
def a129_0 (r_ : Nat × Bool) : List (Ex × St) := [(Ex.ret, (⟨[(2, (V.bool r_.2))], [], 0, []⟩ : St)), ((Ex.exit 0), (⟨[(2, V.dead)], [], 0, []⟩ : St))]
def s129_0 : SS := ⟨[(0, (.one (.inl Zb))), (3, (.one (.int .i64)))], [], 0, []⟩
noncomputable def l129_0 : LE := le1 4 s129_0 (fun st => Za8 ((((((sv st 0).L).length : Nat) : Int) - ((sv st 1).I)).toNat + 1) ((sv st 0).L) ((sv st 1).I)) a129_0
noncomputable def L129 : Loops := ⟨fun k => (look [(4, [0, 3])] k).getD [], fun _ => [], fun k => (look [(4, [2])] k).getD [], Zcx [l129_0], [], fun _ => []⟩
set_option maxRecDepth 100000 in
theorem t129_0 (k_ : Nat) : ∀ (b0 : List V) (i3 : Int), Agr id (pk1 a129_0) (Za8 k_ b0 i3) (ZZ c129 L129 (lpB Tryz.f129 0) k_ (s129_0.mk' (stv [V.inl 0 b0, vi i3] []))) := by
  induction k_ with
  | zero => exact fun _ _ => g0
  | succ k_ ih => exact fun _ _ => gA (g1 (g1 (g1 (g1 (g1 g4 (ih _ _)) g0) (g1 (g1 (g1 (g1 g4 (ih _ _)) g0) (ih _ _)) g0)) g0) g4) (by kernel_rfl)
theorem o129 : ZJ c129 L129 (Z2 Tryz.f129) := GoodAll.ok (l := [l129_0]) (.cons 0 (by kernel_rfl) (gd1 (fun st => (((((sv st 0).L).length : Nat) : Int) - ((sv st 1).I)).toNat + 1) (fun st => t129_0 _ _ _) fun st => by kernel_rfl) (.nil)) rfl
noncomputable def e129 : En Tryz.prog tab := enP base [] false [] Tryz.func129 (L := L129) o129 [(.one (.inl Zb))] (fun a => Zcl ((rd a 0).L)) (fun r_ : Bool => ((V.bool r_), [])) [] [] [some Zb] false (by kernel_rfl) fun _ => gA (g1 g4 (g1 g4 (g2 fun _ => g1 g4 g4))) (by kernel_rfl)
set_option maxRecDepth 100000 in
noncomputable def e87 : En Tryz.prog tab := enP base [e133, e132, e129] false [] Tryz.func87 Zar [(.agg q4)] (fun a => ZeP (rd a 0)) (fun r_ : Bool => ((V.bool r_), [])) [] [] [none] false (by kernel_rfl) fun _ => gA (g1 g4 (g1 g4 (g1 g4 (g1 g4 (g1 (g2 fun _ => g1 g4 (g1 (g1 g4 (g1 g4 (g1 g4 (g1 g4 (g1 g4 g4))))) (g1 (g1 g4 (g1 g4 (g1 g4 (g1 g4 (g1 g4 g4))))) (g1 (g1 g4 (g1 g4 (g1 g4 (g1 g4 (g1 g4 (g1 g4 g4)))))) (g1 g4 (g1 g4 (g1 g4 (g1 g4 (g1 g4 g4))))))))) (g1 (g2 fun _ => g1 g4 (g1 (g1 g4 (g1 g4 (g1 g4 (g1 g4 (g1 g4 g4))))) (g1 (g1 g4 (g1 g4 (g1 g4 (g1 g4 (g1 g4 g4))))) (g1 (g1 g4 (g1 g4 (g1 g4 (g1 g4 (g1 g4 (g1 g4 g4)))))) (g1 g4 (g1 g4 (g1 g4 (g1 g4 (g1 g4 g4))))))))) (g1 (g2 fun _ => g1 g4 (g1 (g1 g4 (g1 g4 (g1 g4 (g1 g4 (g1 g4 g4))))) (g1 (g1 g4 (g1 g4 (g1 g4 (g1 g4 (g1 g4 g4))))) (g1 (g1 g4 (g1 g4 (g1 g4 (g1 g4 (g1 g4 (g1 g4 g4)))))) (g1 g4 (g1 g4 (g1 g4 (g1 g4 (g1 g4 g4))))))))) (g1 (g2 fun _ => g1 g4 (g1 (g1 g4 (g1 g4 (g1 g4 (g1 g4 (g1 g4 g4))))) (g1 (g1 g4 (g1 g4 (g1 g4 (g1 g4 (g1 g4 g4))))) (g1 (g1 g4 (g1 g4 (g1 g4 (g1 g4 (g1 g4 (g1 g4 g4)))))) (g1 g4 (g1 g4 (g1 g4 (g1 g4 (g1 g4 g4))))))))) (g1 (g2 fun _ => g1 g4 (g1 (g1 g4 (g1 (g1 g4 (g1 g4 (g1 g4 (g1 g4 (g1 g4 g4))))) (g1 (g1 g4 (g1 g4 (g1 g4 (g1 g4 (g1 g4 g4))))) (g1 (g1 g4 (g1 g4 (g1 g4 (g1 g4 (g1 g4 (g1 g4 g4)))))) (g1 g4 (g1 g4 (g1 g4 (g1 g4 (g1 g4 g4))))))))) (g1 (g1 g4 (g1 g4 (g1 g4 (g1 g4 (g1 g4 g4))))) (g1 (g1 g4 (g1 g4 (g1 g4 (g1 g4 (g1 g4 g4))))) (g1 (g1 g4 (g1 g4 (g1 g4 (g1 g4 (g1 g4 (g1 g4 g4)))))) (g1 g4 (g1 g4 (g1 g4 (g1 g4 (g1 g4 g4)))))))))) (g1 (g1 g4 (g1 (g1 g4 (g1 g4 (g1 g4 (g1 g4 (g1 g4 g4))))) (g1 (g1 g4 (g1 g4 (g1 g4 (g1 g4 (g1 g4 g4))))) (g1 (g1 g4 (g1 g4 (g1 g4 (g1 g4 (g1 g4 (g1 g4 g4)))))) (g1 g4 (g1 g4 (g1 g4 (g1 g4 (g1 g4 g4))))))))) (g1 (g1 g4 (g1 g4 (g1 g4 (g1 g4 (g1 g4 g4))))) (g1 (g1 g4 (g1 g4 (g1 g4 (g1 g4 (g1 g4 g4))))) (g1 (g1 g4 (g1 g4 (g1 g4 (g1 g4 (g1 g4 (g1 g4 g4)))))) (g1 g4 (g1 g4 (g1 g4 (g1 g4 (g1 g4 g4)))))))))))))))))) (by kernel_rfl)
set_option maxRecDepth 100000 in
noncomputable def e33 : En Tryz.prog tab := enP base [e87] false [] Tryz.func33 Zar [(.agg q5)] (fun a => Zcm (rd a 0)) (fun r_ : Bool => ((V.bool r_), [])) [] [] [none] false (by kernel_rfl) fun _ => gA (g1 (g1 (g1 (g2 fun _ => g4) g4) g4) (g1 (g1 (g1 (g1 (g2 fun _ => g4) g4) g4) g4) g4)) (by kernel_rfl)
noncomputable def c27 : Cfg := Zaz (P := Tryz.prog) (tab := tab) [e77, e78, e79, e33, e80] false []
def a27_0 (r_ : List V) : List (Ex × St) := [((Ex.exit 0), (⟨[(4, (vs 0 Zaq))], [(0, some (Blk.row Zaq false r_))], 1, []⟩ : St))]
def s27_0 : SS := ⟨[(3, (.one (.bp 0 0))), (4, (.one (.sl 1 Zaq))), (5, (.one (.int .i64))), (6, (.one (.int .i64)))], [(.box ZL [(.inl Zb), (.int .i64), (.int .i64)]), (.row Zaq false)], 2, []⟩
noncomputable def l27_0 : LE := le0 5 s27_0 (fun st => Zam ((((sv st 2).I) - ((sv st 3).I)).toNat + 1) ((sv st 2).I) ((sv st 3).I) (bc st 0) (br st 1)) a27_0
noncomputable def L27 : Loops := ⟨fun k => (look [(5, [3, 4, 5, 6])] k).getD [], fun k => (look [(5, [⟨4, none, false⟩])] k).getD [], fun k => (look [(5, [4])] k).getD [], Zcx [l27_0], [], fun _ => []⟩
set_option maxRecDepth 100000 in
theorem t27_0 (k_ : Nat) : ∀ (n5 : Int) (i6 : Int) (b0 : V) (r1 : List V), Agr id (pk0 a27_0) (Zam k_ n5 i6 b0 r1) (ZZ c27 L27 (lpB Tryz.f27 0) k_ (s27_0.mk' (stv [.dead, .dead, vi n5, vi i6] [bx b0, rb r1]))) := by
  induction k_ with
  | zero => exact fun _ _ _ _ => g0
  | succ k_ ih => exact fun _ _ _ _ => gA (g1 (g2 fun _ => g2 fun _ => g1 (g1 (ih _ _ _ _) g0) (g2 fun _ => g1 (g1 (ih _ _ _ _) g0) (ih _ _ _ _))) g4) (by kernel_rfl)
theorem o27 : ZJ c27 L27 (Z2 Tryz.f27) := GoodAll.ok (l := [l27_0]) (.cons 0 (by kernel_rfl) (gd0 (fun st => (((sv st 2).I) - ((sv st 3).I)).toNat + 1) (fun st => t27_0 _ _ _ _ _) fun st => by kernel_rfl) (.nil)) rfl
noncomputable def e27 : En Tryz.prog tab := enP base [e77, e78, e79, e33, e80] false [] Tryz.func27 (L := L27) o27 [(.one (.inl Zb))] (fun a => Zdf ((rd a 0).L)) (fun r_ : List V => ((V.rr Zaq false r_), [])) [[(.rr Zaq false)]] [] [some Zb] false (by kernel_rfl) fun _ => gA (g2 fun _ => g2 fun _ => g2 fun _ => g4) (by kernel_rfl)
noncomputable def e141 : En Tryz.prog tab := enT base [] false [] Tryz.func141 Zar [] (fun a => ZfM) (fun r_ : V => ((h6 r_), [])) [q7] [] [] false (by kernel_rfl) fun _ => gT g7 (by kernel_rfl)
noncomputable def e126 : En Tryz.prog tab := enT base [] false [] Tryz.func126 Zar [(.one (.inl Zb)), (.one (.inl Zb))] (fun a => ZdH ((rd a 0).L) ((rd a 1).L)) (fun r_ : Bool => ((V.bool r_), [])) [] [] [some Zb, some Zb] false (by kernel_rfl) fun _ => gT g7 (by kernel_rfl)
noncomputable def e192 : En Tryz.prog tab := enT base [e126] false [] Tryz.func192 Zar [(.agg q4), (.agg q4)] (fun a => Zfw (rd a 0) (rd a 1)) (fun r_ : Bool => ((V.bool r_), [])) [] [] [none, none] false (by kernel_rfl) fun _ => gT (g5 (g5 (g5 g7 g7) g7) g7) (by kernel_rfl)
noncomputable def e140 : En Tryz.prog tab := enT base [e192] false [] Tryz.func140 Zar [(.agg q5), (.agg q5)] (fun a => ZdQ (rd a 0) (rd a 1)) (fun r_ : Bool => ((V.bool r_), [])) [] [] [none, none] false (by kernel_rfl) fun _ => gT (g5 (g5 g7 g7) g7) (by kernel_rfl)
noncomputable def e73 : En Tryz.prog tab := enT base [] false [] Tryz.func73 Zar [(.one (.int .i64)), (.one (.int .i64)), (.one (.int .i64))] (fun a => ZC ((rd a 0).I) ((rd a 1).I) ((rd a 2).I)) (fun r_ : Bool => ((V.bool r_), [])) [] [] [none, none, none] false (by kernel_rfl) fun _ => gT (g5 g7 g7) (by kernel_rfl)
noncomputable def c81 : Cfg := Zaz (P := Tryz.prog) (tab := tab) [e73] false []
def a81_0 (r_ : Nat × List V × Bool) : List (Ex × St) := [(Ex.ret, (⟨[(0, (V.inl Zb r_.2.1)), (2, (V.bool r_.2.2))], [], 0, []⟩ : St)), ((Ex.exit 0), (⟨[(0, (V.inl Zb r_.2.1)), (2, V.dead)], [], 0, []⟩ : St))]
def s81_0 : SS := ⟨[(0, (.one (.inl Zb))), (5, (.one (.inl Zb))), (6, (.one (.int .i64))), (7, (.one (.int .i64)))], [], 0, []⟩
noncomputable def l81_0 : LE := le1 2 s81_0 (fun st => Za9 ((((sv st 2).I) - ((sv st 3).I)).toNat + 1) ((sv st 0).L) ((sv st 1).L) ((sv st 2).I) ((sv st 3).I)) a81_0
noncomputable def L81 : Loops := ⟨fun k => (look [(2, [0, 5, 6, 7])] k).getD [], fun _ => [], fun k => (look [(2, [0, 2])] k).getD [], Zcx [l81_0], [], fun _ => []⟩
set_option maxRecDepth 100000 in
theorem t81_0 (k_ : Nat) : ∀ (b0 : List V) (v5 : List V) (v6 : Int) (v7 : Int), Agr id (pk1 a81_0) (Za9 k_ b0 v5 v6 v7) (ZZ c81 L81 (lpB Tryz.f81 0) k_ (s81_0.mk' (stv [V.inl 0 b0, V.inl 0 v5, vi v6, vi v7] []))) := by
  induction k_ with
  | zero => exact fun _ _ _ _ => g0
  | succ k_ ih => exact fun _ _ _ _ => gA (g1 (g1 (g1 (g1 g4 (ih _ _ _ _)) (g1 (g1 g4 (ih _ _ _ _)) (ih _ _ _ _))) g0) g4) (by kernel_rfl)
theorem o81 : ZJ c81 L81 (Z2 Tryz.f81) := GoodAll.ok (l := [l81_0]) (.cons 0 (by kernel_rfl) (gd1 (fun st => (((sv st 2).I) - ((sv st 3).I)).toNat + 1) (fun st => t81_0 _ _ _ _ _) fun st => by kernel_rfl) (.nil)) rfl
noncomputable def e81 : En Tryz.prog tab := enP base [e73] false [] Tryz.func81 (L := L81) o81 [(.one (.inl Zb))] (fun a => Zbz ((rd a 0).L)) (fun r_ : Bool => ((V.bool r_), [])) [] [] [some Zb] false (by kernel_rfl) fun _ => gA (g2 fun _ => g1 g4 g4) (by kernel_rfl)
noncomputable def e82 : En Tryz.prog tab := enT base [] false [] Tryz.func82 Zar [(.one (.inl Zb))] (fun a => Zb2 ((rd a 0).L)) (fun r_ : Bool => ((V.bool r_), [])) [] [] [some Zb] false (by kernel_rfl) fun _ => gT g7 (by kernel_rfl)
set_option maxRecDepth 100000 in
noncomputable def e142 : En Tryz.prog tab := enP base [e73, e81, e82] false [] Tryz.func142 Zar [(.agg q4)] (fun a => ZfN (rd a 0)) (fun r_ : Bool => ((V.bool r_), [])) [] [] [none] false (by kernel_rfl) fun _ => gA (g1 (g1 (g1 g4 g4) g4) (g1 (g1 (g2 fun _ => g1 (g1 g4 g4) g4) g4) (g1 (g1 (g2 fun _ => g1 (g1 g4 g4) g4) g4) (g1 (g1 (g2 fun _ => g1 g4 g4) g4) (g1 (g1 (g1 g4 g4) g4) (g1 (g1 (g1 g4 g4) g4) (g1 (g1 (g2 fun _ => g1 (g1 g4 g4) g4) g4) (g1 (g1 (g2 fun _ => g1 g4 g4) g4) g4)))))))) (by kernel_rfl)
noncomputable def e62 : En Tryz.prog tab := enP base [e141, e140, e73, e142] false [] Tryz.func62 Zar [(.agg q5)] (fun a => ZcU (rd a 0)) (fun r_ : Bool => ((V.bool r_), [])) [] [] [none] false (by kernel_rfl) fun _ => gA (g1 g4 (g1 (g1 (g2 fun _ => g4) g4) g4)) (by kernel_rfl)
noncomputable def e197 : En Tryz.prog tab := enT base [] false [] Tryz.func197 Zar [(.agg q8), (.one (.int .i64))] (fun a => ZbJ (rd a 0) ((rd a 1).I)) (fun r_ : Int => ((vi r_), [])) [] [] [none, none] false (by kernel_rfl) fun _ => gT g7 (by kernel_rfl)
noncomputable def c196 : Cfg := Zaz (P := Tryz.prog) (tab := tab) [e197] false []
def a196_0 (r_ : List V × Int × Int × Int) : List (Ex × St) := [((Ex.exit 0), (⟨[(0, (V.inl Ze r_.1)), (1, (vi r_.2.1)), (2, (V.fn 197 [])), (8, (vi r_.2.2.1)), (9, (vi r_.2.2.2))], [], 0, []⟩ : St))]
def s196_0 : SS := ⟨[(0, (.one (.inl Ze))), (1, (.one (.int .i64))), (2, (.fn 197 [])), (8, (.one (.int .i64))), (9, (.one (.int .i64))), (10, (.one (.int .i64)))], [], 0, []⟩
noncomputable def l196_0 : LE := le0 3 s196_0 (fun st => ZG ((((sv st 5).I) - ((sv st 4).I)).toNat + 1) ((sv st 0).L) ((sv st 1).I) ((sv st 3).I) ((sv st 4).I) ((sv st 5).I)) a196_0
noncomputable def L196 : Loops := ⟨fun k => (look [(3, [0, 1, 2, 8, 9, 10])] k).getD [], fun _ => [], fun k => (look [(3, [0, 1, 2, 8, 9])] k).getD [], Zcx [l196_0], [], fun _ => []⟩
theorem t196_0 (k_ : Nat) : ∀ (x0 : List V) (target1 : Int) (n8 : Int) (i9 : Int) (j10 : Int), Agr id (pk0 a196_0) (ZG k_ x0 target1 n8 i9 j10) (ZZ c196 L196 (lpB Tryz.f196 0) k_ (s196_0.mk' (stv [V.inl 0 x0, vi target1, V.fn 0 [], vi n8, vi i9, vi j10] []))) := by
  induction k_ with
  | zero => exact fun _ _ _ _ _ => g0
  | succ k_ ih => exact fun _ _ _ _ _ => gA (g1 (g1 (g1 (ih _ _ _ _ _) (ih _ _ _ _ _)) g0) g4) (by kernel_rfl)
theorem o196 : ZJ c196 L196 (Z2 Tryz.f196) := GoodAll.ok (l := [l196_0]) (.cons 0 (by kernel_rfl) (gd0 (fun st => (((sv st 5).I) - ((sv st 4).I)).toNat + 1) (fun st => t196_0 _ _ _ _ _ _) fun st => by kernel_rfl) (.nil)) rfl
noncomputable def e196 : En Tryz.prog tab := enP base [e197] false [] Tryz.func196 (L := L196) o196 [(.one (.inl Ze)), (.one (.int .i64)), (.fn 197 [])] (fun a => ZaE ((rd a 0).L) ((rd a 1).I)) (fun r_ : Int × Bool => ((V.tup [(vi r_.1), (V.bool r_.2)]), [])) [] [] [some Ze, none, none] false (by kernel_rfl) fun _ => gA (g2 fun _ => g1 (g1 g4 g0) g4) (by kernel_rfl)
noncomputable def e151 : En Tryz.prog tab := enP base [e196] false [] Tryz.func151 Zar [(.agg q9), (.one (.int .i64))] (fun a => Zcn (rd a 0) ((rd a 1).I)) (fun r_ : Int × Bool => ((V.tup [(vi r_.1), (V.bool r_.2)]), [])) [] [] [none, none] false (by kernel_rfl) fun _ => gA (g2 fun _ => g4) (by kernel_rfl)
noncomputable def e84 : En Tryz.prog tab := enCmp base Tryz.func84 (by kernel_rfl) Zb rfl rfl rfl cmp84 [some Zb, some Zb]
noncomputable def e160 : En Tryz.prog tab := enT base [e84] false [] Tryz.func160 Zar [(.agg q10), (.one (.inl Zb))] (fun a => ZcV (rd a 0) ((rd a 1).L)) (fun r_ : Int => ((vi r_), [])) [] [] [none, some Zb] false (by kernel_rfl) fun _ => gT g7 (by kernel_rfl)
noncomputable def c159 : Cfg := Zaz (P := Tryz.prog) (tab := tab) [e160] false []
def a159_0 (r_ : List V × List V × Int × Int) : List (Ex × St) := [((Ex.exit 0), (⟨[(0, (V.inl Zg r_.1)), (1, (V.inl Zb r_.2.1)), (2, (V.fn 160 [])), (8, (vi r_.2.2.1)), (9, (vi r_.2.2.2))], [], 0, []⟩ : St))]
def s159_0 : SS := ⟨[(0, (.one (.inl Zg))), (1, (.one (.inl Zb))), (2, (.fn 160 [])), (8, (.one (.int .i64))), (9, (.one (.int .i64))), (10, (.one (.int .i64)))], [], 0, []⟩
noncomputable def l159_0 : LE := le0 3 s159_0 (fun st => ZA ((((sv st 5).I) - ((sv st 4).I)).toNat + 1) ((sv st 0).L) ((sv st 1).L) ((sv st 3).I) ((sv st 4).I) ((sv st 5).I)) a159_0
noncomputable def L159 : Loops := ⟨fun k => (look [(3, [0, 1, 2, 8, 9, 10])] k).getD [], fun _ => [], fun k => (look [(3, [0, 1, 2, 8, 9])] k).getD [], Zcx [l159_0], [], fun _ => []⟩
theorem t159_0 (k_ : Nat) : ∀ (x0 : List V) (target1 : List V) (n8 : Int) (i9 : Int) (j10 : Int), Agr id (pk0 a159_0) (ZA k_ x0 target1 n8 i9 j10) (ZZ c159 L159 (lpB Tryz.f159 0) k_ (s159_0.mk' (stv [V.inl 0 x0, V.inl 0 target1, V.fn 0 [], vi n8, vi i9, vi j10] []))) := by
  induction k_ with
  | zero => exact fun _ _ _ _ _ => g0
  | succ k_ ih => exact fun _ _ _ _ _ => gA (g1 (g1 (g1 (ih _ _ _ _ _) (ih _ _ _ _ _)) g0) g4) (by kernel_rfl)
theorem o159 : ZJ c159 L159 (Z2 Tryz.f159) := GoodAll.ok (l := [l159_0]) (.cons 0 (by kernel_rfl) (gd0 (fun st => (((sv st 5).I) - ((sv st 4).I)).toNat + 1) (fun st => t159_0 _ _ _ _ _ _) fun st => by kernel_rfl) (.nil)) rfl
noncomputable def e159 : En Tryz.prog tab := enP base [e160] false [] Tryz.func159 (L := L159) o159 [(.one (.inl Zg)), (.one (.inl Zb)), (.fn 160 [])] (fun a => ZaZ ((rd a 0).L) ((rd a 1).L)) (fun r_ : Int × Bool => ((V.tup [(vi r_.1), (V.bool r_.2)]), [])) [] [] [some Zg, some Zb, none] false (by kernel_rfl) fun _ => gA (g2 fun _ => g1 (g1 g4 g0) g4) (by kernel_rfl)
noncomputable def e85 : En Tryz.prog tab := enP base [e159] false [] Tryz.func85 Zar [(.agg q9), (.one (.inl Zb))] (fun a => Za0 (rd a 0) ((rd a 1).L)) (fun r_ : Int × Bool => ((V.tup [(vi r_.1), (V.bool r_.2)]), [])) [] [] [none, some Zb] false (by kernel_rfl) fun _ => gA (g2 fun _ => g4) (by kernel_rfl)
noncomputable def e127 : En Tryz.prog tab := enN base [] false [] Tryz.func127 Zar Zb ZF (fun r_ : List V => ((V.rr Zb true r_), [])) [[(.rr Zb true)]] [] [some Zb] false (by kernel_rfl) (fun _ => gA (g1 g4 g0) (by kernel_rfl)) (by
  have h : Zej (wkF [[(.rr Zb true)]] []) (Zaz (P := Tryz.prog) (tab := tab) [] false []) noL Tryz.f127 [V.nl Zb] = (some (wkF [[(.rr Zb true)]] [] ((V.nil Zb), []))) := by kernel_rfl
  rw [h, ZF]
  clear h
  intro r h; revert h; simp only [List.length_nil]; intro h; first | (cases h; kernel_rfl) | (revert h; simp [Zah]; intro h; subst h; kernel_rfl))
noncomputable def e230 : En Tryz.prog tab := enIns base Tryz.func230 (by kernel_rfl) Zg rfl true 64 rfl ins230 [some Zg, none, some Zg]
noncomputable def e162 : En Tryz.prog tab := enT base [e126] false [] Tryz.func162 Zar [(.agg [(.inl Zb), (.int .i64)]), (.ep [(.inl Zb)] 0)] (fun a => Ze0 (rd a 0) ((rd a 1).unbox)) (fun r_ : Bool => ((V.bool r_), [])) [] [] [none] false (by kernel_rfl) fun _ => gT g7 (by kernel_rfl)
noncomputable def c161 : Cfg := Zaz (P := Tryz.prog) (tab := tab) [e162] false []
def a161_0 (r_ : Nat × Int) : List (Ex × St) := [(Ex.ret, (⟨[(4, (vi r_.2))], [], 0, []⟩ : St)), ((Ex.exit 0), (⟨[(4, V.dead)], [], 0, []⟩ : St))]
def s161_0 : SS := ⟨[(0, (.one (.inl Zf))), (1, (.fn 162 [[(.inl Zb)]])), (7, (.one (.int .i64))), (8, (.one (.int .i64)))], [], 0, []⟩
noncomputable def l161_0 : LE := le1 2 s161_0 (fun st => Zaa ((((sv st 2).I) - ((sv st 3).I)).toNat + 1) ((sv st 0).L) ((rd (sv st 1).caps 0).unbox) ((sv st 2).I) ((sv st 3).I)) a161_0
noncomputable def L161 : Loops := ⟨fun k => (look [(2, [0, 1, 7, 8])] k).getD [], fun _ => [], fun k => (look [(2, [4])] k).getD [], Zcx [l161_0], [], fun _ => []⟩
theorem t161_0 (k_ : Nat) : ∀ (s0 : List V) (f1_0 : V) (v7 : Int) (v8 : Int), Agr id (pk1 a161_0) (Zaa k_ s0 f1_0 v7 v8) (ZZ c161 L161 (lpB Tryz.f161 0) k_ (s161_0.mk' (stv [V.inl 0 s0, V.fn 0 [.ep (V.cells f1_0) 0], vi v7, vi v8] []))) := by
  induction k_ with
  | zero => exact fun _ _ _ _ => g0
  | succ k_ ih => exact fun _ _ _ _ => gA (g1 (g1 (g1 g4 (ih _ _ _ _)) g0) g4) (by kernel_rfl)
theorem o161 : ZJ c161 L161 (Z2 Tryz.f161) := GoodAll.ok (l := [l161_0]) (.cons 0 (by kernel_rfl) (gd1 (fun st => (((sv st 2).I) - ((sv st 3).I)).toNat + 1) (fun st => t161_0 _ _ _ _ _) fun st => by kernel_rfl) (.nil)) rfl
noncomputable def e161 : En Tryz.prog tab := enP base [e162] false [] Tryz.func161 (L := L161) o161 [(.one (.inl Zf)), (.fn 162 [[(.inl Zb)]])] (fun a => ZcI ((rd a 0).L) ((rd (rd a 1).caps 0).unbox)) (fun r_ : Int => ((vi r_), [])) [] [] [some Zf, none] false (by kernel_rfl) fun _ => gA (g2 fun _ => g1 g4 g4) (by kernel_rfl)
noncomputable def e86 : En Tryz.prog tab := enP base [e161] false [] Tryz.func86 Zar [(.agg q9), (.one (.inl Zb))] (fun a => Zbf (rd a 0) ((rd a 1).L)) (fun r_ : Int => ((vi r_), [])) [] [] [none, some Zb] false (by kernel_rfl) fun _ => gA (g2 fun _ => g4) (by kernel_rfl)
noncomputable def e232 : En Tryz.prog tab := enDel base Tryz.func232 (by kernel_rfl) Zg rfl true del232 ZjS [some Zg, none, none]
noncomputable def Zh3 : En Tryz.prog tab := enDel base Tryz.func231 (by kernel_rfl) Zf rfl false del231 ZnF [some Zf, none, none]
noncomputable def e157 : En Tryz.prog tab := enT base [] false [] Tryz.func157 Zar [(.agg [(.int .i64), .bool]), (.ep [(.int .i64)] 0)] (fun a => Zel (rd a 0) ((rd a 1).unbox)) (fun r_ : Bool => ((V.bool r_), [])) [] [] [none] false (by kernel_rfl) fun _ => gT g7 (by kernel_rfl)
noncomputable def c156 : Cfg := Zaz (P := Tryz.prog) (tab := tab) [e157] false []
def a156_0 (r_ : Nat × Int) : List (Ex × St) := [(Ex.ret, (⟨[(4, (vi r_.2))], [], 0, []⟩ : St)), ((Ex.exit 0), (⟨[(4, V.dead)], [], 0, []⟩ : St))]
def s156_0 : SS := ⟨[(0, (.one (.inl Zd))), (1, (.fn 157 [[(.int .i64)]])), (7, (.one (.int .i64))), (8, (.one (.int .i64)))], [], 0, []⟩
noncomputable def l156_0 : LE := le1 2 s156_0 (fun st => Z1 ((((sv st 2).I) - ((sv st 3).I)).toNat + 1) ((sv st 0).L) ((rd (sv st 1).caps 0).unbox) ((sv st 2).I) ((sv st 3).I)) a156_0
noncomputable def L156 : Loops := ⟨fun k => (look [(2, [0, 1, 7, 8])] k).getD [], fun _ => [], fun k => (look [(2, [4])] k).getD [], Zcx [l156_0], [], fun _ => []⟩
theorem t156_0 (k_ : Nat) : ∀ (s0 : List V) (f1_0 : V) (v7 : Int) (v8 : Int), Agr id (pk1 a156_0) (Z1 k_ s0 f1_0 v7 v8) (ZZ c156 L156 (lpB Tryz.f156 0) k_ (s156_0.mk' (stv [V.inl 0 s0, V.fn 0 [.ep (V.cells f1_0) 0], vi v7, vi v8] []))) := by
  induction k_ with
  | zero => exact fun _ _ _ _ => g0
  | succ k_ ih => exact fun _ _ _ _ => gA (g1 (g1 (g1 g4 (ih _ _ _ _)) g0) g4) (by kernel_rfl)
theorem o156 : ZJ c156 L156 (Z2 Tryz.f156) := GoodAll.ok (l := [l156_0]) (.cons 0 (by kernel_rfl) (gd1 (fun st => (((sv st 2).I) - ((sv st 3).I)).toNat + 1) (fun st => t156_0 _ _ _ _ _) fun st => by kernel_rfl) (.nil)) rfl
noncomputable def e156 : En Tryz.prog tab := enP base [e157] false [] Tryz.func156 (L := L156) o156 [(.one (.inl Zd)), (.fn 157 [[(.int .i64)]])] (fun a => Zb3 ((rd a 0).L) ((rd (rd a 1).caps 0).unbox)) (fun r_ : Int => ((vi r_), [])) [] [] [some Zd, none] false (by kernel_rfl) fun _ => gA (g2 fun _ => g1 g4 g4) (by kernel_rfl)
noncomputable def e83 : En Tryz.prog tab := enP base [e156] false [] Tryz.func83 Zar [(.agg q9), (.one (.int .i64))] (fun a => Zan (rd a 0) ((rd a 1).I)) (fun r_ : Int => ((vi r_), [])) [] [] [none, none] false (by kernel_rfl) fun _ => gA (g2 fun _ => g4) (by kernel_rfl)
noncomputable def e233 : En Tryz.prog tab := enDel base Tryz.func233 (by kernel_rfl) Zd rfl true del233 ZnG [some Zd, none, none]
noncomputable def c199v1 : Cfg := Zaz (P := Tryz.prog) (tab := tab) [e232, Zh3] false []
def ZlP (r_ : V × List V × List V × List V × List V) : List (Ex × St) := [((Ex.exit 0), (⟨[], [(0, some (Blk.box Zk (l11 r_.1))), (1, some (Blk.row Zg true r_.2.1)), (2, some (Blk.row Zf false r_.2.2.1)), (3, some (Blk.row Zd true r_.2.2.2.1)), (4, some (Blk.row Ze true r_.2.2.2.2))], 5, [0]⟩ : St))]
def s199v1_0 : SS := ⟨[(0, (.one (.bp 0 0)))], [(.box Zk q12), (.row Zg true), (.row Zf false), (.row Zd true), (.row Ze true)], 5, [0]⟩
noncomputable def ZlQ : LE := le0 2 s199v1_0 (fun st => Zbn (((((br st 2).length : Nat) : Int) - 10).toNat + 1) (bc st 0) (br st 1) (br st 2) (br st 3) (br st 4)) ZlP
noncomputable def ZlR : Loops := ⟨fun k => (look [(2, [0])] k).getD [], fun _ => [], fun k => (look [(2, [])] k).getD [], Zcx [ZlQ], [], fun _ => []⟩
theorem t199v1_0 (k_ : Nat) : ∀ (b0 : V) (r1 : List V) (r2 : List V) (r3 : List V) (r4 : List V), Agr id (pk0 ZlP) (Zbn k_ b0 r1 r2 r3 r4) (ZZ c199v1 ZlR (lpB Tryz.f199 0) k_ (s199v1_0.mk' (stv [] [bx b0, rb r1, rb r2, rb r3, rb r4]))) := by
  induction k_ with
  | zero => exact fun _ _ _ _ _ => g0
  | succ k_ ih => exact fun _ _ _ _ _ => gA (g1 (g1 (g2 fun _ => ih _ _ _ _ _) g0) g4) (by kernel_rfl)
theorem o199v1 : ZJ c199v1 ZlR (Z2 Tryz.f199) := GoodAll.ok (l := [ZlQ]) (.cons 0 (by kernel_rfl) (gd0 (fun st => ((((br st 2).length : Nat) : Int) - 10).toNat + 1) (fun st => t199v1_0 _ _ _ _ _ _) fun st => by kernel_rfl) (.nil)) rfl
noncomputable def ZlS : En Tryz.prog tab := enP base [e232, Zh3] false [] Tryz.func199 (L := ZlR) o199v1 [(.rf Zk q13), (.one (.int .i64))] (fun a => ZcW ((rd a 0).unbox) ((rd a 1).I)) (fun r_ : V => ((V.tup []), [(V.rf Zk (l14 r_))])) [] [q15] [none, none] false (by kernel_rfl) fun _ => gA (g1 (g1 (g2 fun _ => g2 fun _ => g4) g0) g0) (by kernel_rfl)
noncomputable def e153 : En Tryz.prog tab := enIns base Tryz.func153 (by kernel_rfl) Ze rfl true 32 rfl ins153 [some Ze, none, some Ze]
set_option maxRecDepth 100000 in
noncomputable def e198v1 : En Tryz.prog tab := enP base [e85, e127, e230, e86, Zh3] false [] Tryz.func198 Zar [(.rf Zk q13), (.one (.inl Zb)), (.one (.inl Zb))] (fun a => ZW ((rd a 0).unbox) ((rd a 1).L) ((rd a 2).L)) (fun r_ : Bool × V => ((V.bool r_.1), [(V.rf Zk (l14 r_.2))])) [] [q15] [none, some Zb, some Zb] false (by kernel_rfl) fun _ => gA (g2 fun _ => g1 (g1 g4 (g2 fun _ => g2 fun _ => g2 fun _ => g1 (g2 fun _ => g2 fun _ => g1 (g1 g4 g0) g0) (g2 fun _ => g1 (g1 g4 g0) g0))) (g2 fun _ => g1 (g1 g4 g0) g0)) (by kernel_rfl)
noncomputable def c200v1 : Cfg := Zaz (P := Tryz.prog) (tab := tab) [e83, e233, ZlS] false []
def ZlT (r_ : V × List V × List V × List V × List V) : List (Ex × St) := [((Ex.exit 0), (⟨[], [(0, some (Blk.box Zk (l11 r_.1))), (1, some (Blk.row Zg true r_.2.1)), (2, some (Blk.row Zf false r_.2.2.1)), (3, some (Blk.row Zd true r_.2.2.2.1)), (4, some (Blk.row Ze true r_.2.2.2.2))], 5, [0]⟩ : St))]
def s200v1_0 : SS := ⟨[(0, (.one (.bp 0 0))), (1, (.one (.int .i64))), (6, (.one .bool)), (7, (.one (.int .i64)))], [(.box Zk q12), (.row Zg true), (.row Zf false), (.row Zd true), (.row Ze true)], 5, [0]⟩
noncomputable def ZlU : LE := le0 7 s200v1_0 (fun st => ZaR (((((br st 1).length : Nat) : Int) - ((sv st 3).I)).toNat + 1) ((sv st 1).I) ((sv st 2).B) ((sv st 3).I) (bc st 0) (br st 1) (br st 2) (br st 3) (br st 4)) ZlT
noncomputable def ZlV : Loops := ⟨fun k => (look [(7, [0, 1, 6, 7])] k).getD [], fun _ => [], fun k => (look [(7, [])] k).getD [], Zcx [ZlU], [], fun _ => []⟩
set_option maxRecDepth 100000 in
theorem t200v1_0 (k_ : Nat) : ∀ (id1 : Int) (remove6 : Bool) (k7 : Int) (b0 : V) (r1 : List V) (r2 : List V) (r3 : List V) (r4 : List V), Agr id (pk0 ZlT) (ZaR k_ id1 remove6 k7 b0 r1 r2 r3 r4) (ZZ c200v1 ZlV (lpB Tryz.f200 0) k_ (s200v1_0.mk' (stv [.dead, vi id1, V.bool remove6, vi k7] [bx b0, rb r1, rb r2, rb r3, rb r4]))) := by
  induction k_ with
  | zero => exact fun _ _ _ _ _ _ _ _ => g0
  | succ k_ ih => exact fun _ _ _ _ _ _ _ _ => gA (g1 (g1 (g1 (ih _ _ _ _ _ _ _ _) (g1 (g2 fun _ => ih _ _ _ _ _ _ _ _) (g1 (g1 (ih _ _ _ _ _ _ _ _) g0) g0))) g0) g4) (by kernel_rfl)
theorem o200v1 : ZJ c200v1 ZlV (Z2 Tryz.f200) := GoodAll.ok (l := [ZlU]) (.cons 0 (by kernel_rfl) (gd0 (fun st => ((((br st 1).length : Nat) : Int) - ((sv st 3).I)).toNat + 1) (fun st => t200v1_0 _ _ _ _ _ _ _ _ _) fun st => by kernel_rfl) (.nil)) rfl
noncomputable def e200v1 : En Tryz.prog tab := enP base [e83, e233, ZlS] false [] Tryz.func200 (L := ZlV) o200v1 [(.rf Zk q13), (.one (.int .i64))] (fun a => ZeQ ((rd a 0).unbox) ((rd a 1).I)) (fun r_ : Int × V => ((vi r_.1), [(V.rf Zk (l14 r_.2))])) [] [q15] [none, none] false (by kernel_rfl) fun _ => gA (g2 fun _ => g1 g4 (g1 (g2 fun _ => g2 fun _ => g4) g0)) (by kernel_rfl)
set_option maxRecDepth 100000 in
noncomputable def e152v1 : En Tryz.prog tab := enP base [e85, e198v1, ZlS, e200v1, e83] false [] Tryz.func152 Zar [(.rf Zk q13), (.agg q4)] (fun a => Zb4 ((rd a 0).unbox) (rd a 1)) (fun r_ : Int × V => ((vi r_.1), [(V.rf Zk (l14 r_.2))])) [] [q15] [none, none] false (by kernel_rfl) fun _ => gA (g2 fun _ => g1 (g1 (g1 (g1 (g1 g4 (g2 fun _ => g1 g4 g4)) (g2 fun _ => g1 g4 g4)) g0) (g1 (g1 g4 (g2 fun _ => g1 g4 g4)) (g2 fun _ => g1 g4 g4))) (g1 (g1 (g1 (g1 (g1 g4 (g2 fun _ => g1 g4 g4)) (g2 fun _ => g1 g4 g4)) g0) (g1 (g1 g4 (g2 fun _ => g1 g4 g4)) (g2 fun _ => g1 g4 g4))) (g1 (g1 g4 (g2 fun _ => g4)) (g1 (g1 g4 (g1 g4 g0)) (g1 (g2 fun _ => g4) (g1 (g2 fun _ => g1 g4 (g1 (g1 (g1 (g1 (g1 g4 (g2 fun _ => g1 g4 (g1 g4 g0))) g0) (g2 fun _ => g1 g4 (g1 g4 g0))) g0) (g2 fun _ => g1 g4 (g1 g4 g0)))) (g1 (g1 g4 (g1 (g1 g4 (g1 (g1 g4 g0) g0)) g0)) g4))))))) (by kernel_rfl)
set_option maxRecDepth 100000 in
noncomputable def e74v1 : En Tryz.prog tab := enP base [e151, e152v1, e153] false [] Tryz.func74 Zar [(.rf Zk q13), (.agg q5)] (fun a => Zdc ((rd a 0).unbox) (rd a 1)) (fun r_ : V × V => ((Zdr r_.1), [(V.rf Zk (l14 r_.2))])) [] [q15] [none, none] false (by kernel_rfl) fun _ => gA (g1 g4 (g2 fun _ => g1 (g1 (g1 (g1 g4 g0) (g1 (g1 (g1 g4 (g2 fun _ => g1 (g1 g4 g0) (g2 fun _ => g4))) g0) (g2 fun _ => g1 (g1 g4 g0) (g2 fun _ => g4)))) g0) (g1 (g1 (g1 g4 (g2 fun _ => g1 (g1 g4 g0) (g2 fun _ => g4))) g0) (g2 fun _ => g1 (g1 g4 g0) (g2 fun _ => g4))))) (by kernel_rfl)
noncomputable def c28 : Cfg := Zaz (P := Tryz.prog) (tab := tab) [e62, e74v1] false []
def a28_0 (r_ : V × V × List V × List V × List V × List V × List V × List V × List V × List V × List V) : List (Ex × St) := [((Ex.exit 0), (⟨[(2, (V.bp 0 0)), (4, (V.bp 1 0)), (5, (vs 2 ZK))], [(0, some (Blk.box Zk (l16 r_.1))), (1, some (Blk.box Zk (l17 r_.2.1))), (2, some (Blk.row ZK true r_.2.2.1)), (3, some (Blk.row Zg true r_.2.2.2.1)), (4, some (Blk.row Zf true r_.2.2.2.2.1)), (5, some (Blk.row Zd true r_.2.2.2.2.2.1)), (6, some (Blk.row Ze true r_.2.2.2.2.2.2.1)), (7, some (Blk.row Zg true r_.2.2.2.2.2.2.2.1)), (8, some (Blk.row Zf false r_.2.2.2.2.2.2.2.2.1)), (9, some (Blk.row Zd true r_.2.2.2.2.2.2.2.2.2.1)), (10, some (Blk.row Ze true r_.2.2.2.2.2.2.2.2.2.2))], 11, []⟩ : St))]
def s28_0 : SS := ⟨[(2, (.one (.bp 0 0))), (4, (.one (.bp 1 0))), (5, (.one (.sl 2 ZK))), (12, (.one (.inl Zaq))), (13, (.one (.int .i64))), (14, (.one (.int .i64)))], [(.box Zk q18), (.box Zk q19), (.row ZK true), (.row Zg true), (.row Zf true), (.row Zd true), (.row Ze true), (.row Zg true), (.row Zf false), (.row Zd true), (.row Ze true)], 11, []⟩
noncomputable def l28_0 : LE := le0 6 s28_0 (fun st => Zaf ((((sv st 4).I) - ((sv st 5).I)).toNat + 1) ((sv st 3).L) ((sv st 4).I) ((sv st 5).I) (bc st 0) (bc st 1) (br st 2) (br st 3) (br st 4) (br st 5) (br st 6) (br st 7) (br st 8) (br st 9) (br st 10)) a28_0
noncomputable def L28 : Loops := ⟨fun k => (look [(6, [2, 4, 5, 12, 13, 14])] k).getD [], fun k => (look [(6, [⟨2, some 1, true⟩, ⟨2, some 2, true⟩, ⟨2, some 4, true⟩, ⟨2, some 5, true⟩, ⟨4, some 1, true⟩, ⟨4, some 4, true⟩, ⟨4, some 5, true⟩, ⟨5, none, true⟩, ⟨4, some 2, false⟩])] k).getD [], fun k => (look [(6, [2, 4, 5])] k).getD [], Zcx [l28_0], [], fun _ => []⟩
theorem t28_0 (k_ : Nat) : ∀ (v12 : List V) (v13 : Int) (v14 : Int) (b0 : V) (b1 : V) (r2 : List V) (r3 : List V) (r4 : List V) (r5 : List V) (r6 : List V) (r7 : List V) (r8 : List V) (r9 : List V) (r10 : List V), Agr id (pk0 a28_0) (Zaf k_ v12 v13 v14 b0 b1 r2 r3 r4 r5 r6 r7 r8 r9 r10) (ZZ c28 L28 (lpB Tryz.f28 0) k_ (s28_0.mk' (stv [.dead, .dead, .dead, V.inl 0 v12, vi v13, vi v14] [bx b0, bx b1, rb r2, rb r3, rb r4, rb r5, rb r6, rb r7, rb r8, rb r9, rb r10]))) := by
  induction k_ with
  | zero => exact fun _ _ _ _ _ _ _ _ _ _ _ _ _ _ => g0
  | succ k_ ih => exact fun _ _ _ _ _ _ _ _ _ _ _ _ _ _ => gA (g1 (g1 (g2 fun _ => g1 g4 (g2 fun _ => g1 (ih _ _ _ _ _ _ _ _ _ _ _ _ _ _) g0)) g0) g4) (by kernel_rfl)
theorem o28 : ZJ c28 L28 (Z2 Tryz.f28) := GoodAll.ok (l := [l28_0]) (.cons 0 (by kernel_rfl) (gd0 (fun st => (((sv st 4).I) - ((sv st 5).I)).toNat + 1) (fun st => t28_0 _ _ _ _ _ _ _ _ _ _ _ _ _ _ _) fun st => by kernel_rfl) (.nil)) rfl
noncomputable def e28 : En Tryz.prog tab := enP base [e62, e74v1] false [] Tryz.func28 (L := L28) o28 [(.one (.inl Zaq))] (fun a => Zcy ((rd a 0).L)) (fun r_ : V × List V => ((V.tup [(h20 r_.1), (V.rr ZK true r_.2)]), [])) [q15, [(.rr ZK true)]] [] [some Zaq] false (by kernel_rfl) fun _ => gA (g1 g4 (g2 fun _ => g4)) (by kernel_rfl)
noncomputable def c29 : Cfg := Zaz (P := Tryz.prog) (tab := tab) [e73, e81, e82, e83, e84, e85, e86] false []
def a29_0 (r_ : Nat × Bool × V) : List (Ex × St) := [(Ex.ret, (⟨[(1, (V.bp 0 0)), (2, (V.bool r_.2.1))], [(0, some (Blk.box Zk (l21 r_.2.2)))], 1, []⟩ : St)), ((Ex.exit 0), (⟨[(1, (V.bp 0 0)), (2, V.dead)], [(0, some (Blk.box Zk (l21 r_.2.2)))], 1, []⟩ : St))]
def s29_0 : SS := ⟨[(1, (.one (.bp 0 0))), (51, (.one (.inl Zg))), (52, (.one (.int .i64))), (53, (.one (.int .i64)))], [(.box Zk q9)], 1, []⟩
noncomputable def l29_0 : LE := le1 4 s29_0 (fun st => Zao ((((sv st 2).I) - ((sv st 3).I)).toNat + 1) ((sv st 1).L) ((sv st 2).I) ((sv st 3).I) (bc st 0)) a29_0
def a29_1 (r_ : Nat × Bool × V) : List (Ex × St) := [(Ex.ret, (⟨[(1, (V.bp 0 0)), (2, (V.bool r_.2.1))], [(0, some (Blk.box Zk (l21 r_.2.2)))], 1, []⟩ : St)), ((Ex.exit 2), (⟨[(1, (V.bp 0 0)), (2, V.dead)], [(0, some (Blk.box Zk (l21 r_.2.2)))], 1, []⟩ : St))]
def s29_1 : SS := ⟨[(1, (.one (.bp 0 0))), (5, (.one (.int .i64))), (110, (.one (.inl Zf))), (111, (.one (.int .i64))), (112, (.one (.int .i64)))], [(.box Zk q9)], 1, []⟩
noncomputable def l29_1 : LE := le1 11 s29_1 (fun st => ZaF ((((sv st 3).I) - ((sv st 4).I)).toNat + 1) ((sv st 1).I) ((sv st 2).L) ((sv st 3).I) ((sv st 4).I) (bc st 0)) a29_1
def a29_2 (r_ : Nat × Bool × V) : List (Ex × St) := [(Ex.ret, (⟨[(1, (V.bp 0 0)), (2, (V.bool r_.2.1))], [(0, some (Blk.box Zk (l21 r_.2.2)))], 1, []⟩ : St)), ((Ex.exit 4), (⟨[(1, (V.bp 0 0)), (2, V.dead)], [(0, some (Blk.box Zk (l21 r_.2.2)))], 1, []⟩ : St))]
def s29_2 : SS := ⟨[(1, (.one (.bp 0 0))), (152, (.one (.inl Zd))), (153, (.one (.int .i64))), (154, (.one (.int .i64)))], [(.box Zk q9)], 1, []⟩
noncomputable def l29_2 : LE := le1 19 s29_2 (fun st => ZaG ((((sv st 2).I) - ((sv st 3).I)).toNat + 1) ((sv st 1).L) ((sv st 2).I) ((sv st 3).I) (bc st 0)) a29_2
def a29_3 (r_ : Nat × Bool) : List (Ex × St) := [(Ex.ret, (⟨[(2, (V.bool r_.2))], [], 0, []⟩ : St)), ((Ex.exit 6), (⟨[(2, V.dead)], [], 0, []⟩ : St))]
def s29_3 : SS := ⟨[(1, (.one (.bp 0 0))), (183, (.one (.inl Ze))), (184, (.one (.int .i64))), (185, (.one (.int .i64)))], [(.box Zk q9)], 1, []⟩
noncomputable def l29_3 : LE := le1 25 s29_3 (fun st => ZaH ((((sv st 2).I) - ((sv st 3).I)).toNat + 1) ((sv st 1).L) ((sv st 2).I) ((sv st 3).I) (bc st 0)) a29_3
noncomputable def L29 : Loops := ⟨fun k => (look [(4, [1, 51, 52, 53]), (11, [1, 5, 110, 111, 112]), (19, [1, 152, 153, 154]), (25, [1, 183, 184, 185])] k).getD [], fun _ => [], fun k => (look [(4, [1, 2]), (11, [1, 2]), (19, [1, 2]), (25, [2])] k).getD [], Zcx [l29_0, l29_1, l29_2, l29_3], [], fun _ => []⟩
set_option maxRecDepth 100000 in
theorem t29_0 (k_ : Nat) : ∀ (v51 : List V) (v52 : Int) (v53 : Int) (b0 : V), Agr id (pk1 a29_0) (Zao k_ v51 v52 v53 b0) (ZZ c29 L29 (lpB Tryz.f29 0) k_ (s29_0.mk' (stv [.dead, V.inl 0 v51, vi v52, vi v53] [bx b0]))) := by
  induction k_ with
  | zero => exact fun _ _ _ _ => g0
  | succ k_ ih => exact fun _ _ _ _ => gA (g1 (g1 (g2 fun _ => g1 g4 (g1 g4 (g1 g4 (g1 (g2 fun _ => g1 g4 (g1 (g1 (g1 g4 (ih _ _ _ _)) g0) (ih _ _ _ _))) (g1 (g1 (g1 g4 (ih _ _ _ _)) g0) (ih _ _ _ _)))))) g0) g4) (by kernel_rfl)
set_option maxRecDepth 100000 in
theorem t29_1 (k_ : Nat) : ∀ (before5 : Int) (v110 : List V) (v111 : Int) (v112 : Int) (b0 : V), Agr id (pk1 a29_1) (ZaF k_ before5 v110 v111 v112 b0) (ZZ c29 L29 (lpB Tryz.f29 1) k_ (s29_1.mk' (stv [.dead, vi before5, V.inl 0 v110, vi v111, vi v112] [bx b0]))) := by
  induction k_ with
  | zero => exact fun _ _ _ _ _ => g0
  | succ k_ ih => exact fun _ _ _ _ _ => gA (g1 (g1 (g2 fun _ => g1 g4 (g2 fun _ => g1 g4 (g2 fun _ => g1 g4 (g1 g4 (ih _ _ _ _ _))))) g0) g4) (by kernel_rfl)
set_option maxRecDepth 100000 in
theorem t29_2 (k_ : Nat) : ∀ (v152 : List V) (v153 : Int) (v154 : Int) (b0 : V), Agr id (pk1 a29_2) (ZaG k_ v152 v153 v154 b0) (ZZ c29 L29 (lpB Tryz.f29 2) k_ (s29_2.mk' (stv [.dead, V.inl 0 v152, vi v153, vi v154] [bx b0]))) := by
  induction k_ with
  | zero => exact fun _ _ _ _ => g0
  | succ k_ ih => exact fun _ _ _ _ => gA (g1 (g1 (g1 g4 (g1 (g1 (g1 g4 (ih _ _ _ _)) g0) (ih _ _ _ _))) g0) g4) (by kernel_rfl)
set_option maxRecDepth 100000 in
theorem t29_3 (k_ : Nat) : ∀ (v183 : List V) (v184 : Int) (v185 : Int) (b0 : V), Agr id (pk1 a29_3) (ZaH k_ v183 v184 v185 b0) (ZZ c29 L29 (lpB Tryz.f29 3) k_ (s29_3.mk' (stv [.dead, V.inl 0 v183, vi v184, vi v185] [bx b0]))) := by
  induction k_ with
  | zero => exact fun _ _ _ _ => g0
  | succ k_ ih => exact fun _ _ _ _ => gA (g1 (g1 (g1 g4 (g1 g4 (g1 g4 (g1 g4 (g1 (g1 (g1 g4 (ih _ _ _ _)) g0) (ih _ _ _ _)))))) g0) g4) (by kernel_rfl)
theorem o29 : ZJ c29 L29 (Z2 Tryz.f29) := GoodAll.ok (l := [l29_0, l29_1, l29_2, l29_3]) (.cons 0 (by kernel_rfl) (gd1 (fun st => (((sv st 2).I) - ((sv st 3).I)).toNat + 1) (fun st => t29_0 _ _ _ _ _) fun st => by kernel_rfl) (.cons 1 (by kernel_rfl) (gd1 (fun st => (((sv st 3).I) - ((sv st 4).I)).toNat + 1) (fun st => t29_1 _ _ _ _ _ _) fun st => by kernel_rfl) (.cons 2 (by kernel_rfl) (gd1 (fun st => (((sv st 2).I) - ((sv st 3).I)).toNat + 1) (fun st => t29_2 _ _ _ _ _) fun st => by kernel_rfl) (.cons 3 (by kernel_rfl) (gd1 (fun st => (((sv st 2).I) - ((sv st 3).I)).toNat + 1) (fun st => t29_3 _ _ _ _ _) fun st => by kernel_rfl) (.nil))))) rfl
set_option maxRecDepth 100000 in
noncomputable def e29 : En Tryz.prog tab := enP base [e73, e81, e82, e83, e84, e85, e86] false [] Tryz.func29 (L := L29) o29 [(.agg q9)] (fun a => Zds (rd a 0)) (fun r_ : Bool => ((V.bool r_), [])) [] [] [none] false (by kernel_rfl) fun _ => gA (g1 g4 (g1 g4 (g1 g4 (g1 g4 (g1 g4 (g1 g4 (g2 fun _ => g1 g4 (g2 fun _ => g1 g4 (g2 fun _ => g1 g4 (g2 fun _ => g1 g4 g4)))))))))) (by kernel_rfl)
noncomputable def e30 : En Tryz.prog tab := enP base [] false [] Tryz.func30 Zar [(.one (.inl Zb)), (.one (.int .i64))] (fun a => Zh2 ((rd a 0).L) ((rd a 1).I)) (fun r_ : Int => ((vi r_), [])) [] [] [some Zb, none] false (by kernel_rfl) fun _ => gA (g1 g4 (g1 (g1 g4 g0) g0)) (by kernel_rfl)
noncomputable def e143 : En Tryz.prog tab := enN base [] false [] Tryz.func143 Zar Zg Zb5 (fun r_ : List V => ((V.rr Zg false r_), [])) [[(.rr Zg false)]] [] [some Zg] false (by kernel_rfl) (fun _ => gA (g1 g4 g0) (by kernel_rfl)) (by
  have h : Zej (wkF [[(.rr Zg false)]] []) (Zaz (P := Tryz.prog) (tab := tab) [] false []) noL Tryz.f143 [V.nl Zg] = (some (wkF [[(.rr Zg false)]] [] ((V.nil Zg), []))) := by kernel_rfl
  rw [h, Zb5]
  clear h
  intro r h; revert h; simp only [List.length_nil]; intro h; first | (cases h; kernel_rfl) | (revert h; simp [Zah]; intro h; subst h; kernel_rfl))
noncomputable def e144 : En Tryz.prog tab := enN base [] false [] Tryz.func144 Zar Zf ZbK (fun r_ : List V => ((V.rr Zf false r_), [])) [[(.rr Zf false)]] [] [some Zf] false (by kernel_rfl) (fun _ => gA (g1 g4 g0) (by kernel_rfl)) (by
  have h : Zej (wkF [[(.rr Zf false)]] []) (Zaz (P := Tryz.prog) (tab := tab) [] false []) noL Tryz.f144 [V.nl Zf] = (some (wkF [[(.rr Zf false)]] [] ((V.nil Zf), []))) := by kernel_rfl
  rw [h, ZbK]
  clear h
  intro r h; revert h; simp only [List.length_nil]; intro h; first | (cases h; kernel_rfl) | (revert h; simp [Zah]; intro h; subst h; kernel_rfl))
noncomputable def e145 : En Tryz.prog tab := enN base [] false [] Tryz.func145 Zar Zd Zbg (fun r_ : List V => ((V.rr Zd true r_), [])) [[(.rr Zd true)]] [] [some Zd] false (by kernel_rfl) (fun _ => gA (g1 g4 g0) (by kernel_rfl)) (by
  have h : Zej (wkF [[(.rr Zd true)]] []) (Zaz (P := Tryz.prog) (tab := tab) [] false []) noL Tryz.f145 [V.nl Zd] = (some (wkF [[(.rr Zd true)]] [] ((V.nil Zd), []))) := by kernel_rfl
  rw [h, Zbg]
  clear h
  intro r h; revert h; simp only [List.length_nil]; intro h; first | (cases h; kernel_rfl) | (revert h; simp [Zah]; intro h; subst h; kernel_rfl))
noncomputable def e146 : En Tryz.prog tab := enN base [] false [] Tryz.func146 Zar Ze ZbL (fun r_ : List V => ((V.rr Ze true r_), [])) [[(.rr Ze true)]] [] [some Ze] false (by kernel_rfl) (fun _ => gA (g1 g4 g0) (by kernel_rfl)) (by
  have h : Zej (wkF [[(.rr Ze true)]] []) (Zaz (P := Tryz.prog) (tab := tab) [] false []) noL Tryz.f146 [V.nl Ze] = (some (wkF [[(.rr Ze true)]] [] ((V.nil Ze), []))) := by kernel_rfl
  rw [h, ZbL]
  clear h
  intro r h; revert h; simp only [List.length_nil]; intro h; first | (cases h; kernel_rfl) | (revert h; simp [Zah]; intro h; subst h; kernel_rfl))
noncomputable def c63 : Cfg := Zaz (P := Tryz.prog) (tab := tab) [e143, e144, e145, e146, e127] false []
def a63_0 (r_ : V × V × List V × List V × List V × List V × List V × List V × List V × List V) : List (Ex × St) := [((Ex.exit 0), (⟨[(1, (V.bp 0 0)), (2, (V.bp 1 0))], [(0, some (Blk.box Zk (l22 r_.1))), (1, some (Blk.box Zk (l23 r_.2.1))), (2, some (Blk.row Zg false r_.2.2.1)), (3, some (Blk.row Zf false r_.2.2.2.1)), (4, some (Blk.row Zd true r_.2.2.2.2.1)), (5, some (Blk.row Ze true r_.2.2.2.2.2.1)), (6, some (Blk.row Zg true r_.2.2.2.2.2.2.1)), (7, some (Blk.row Zf true r_.2.2.2.2.2.2.2.1)), (8, some (Blk.row Zd true r_.2.2.2.2.2.2.2.2.1)), (9, some (Blk.row Ze true r_.2.2.2.2.2.2.2.2.2))], 10, []⟩ : St))]
def s63_0 : SS := ⟨[(1, (.one (.bp 0 0))), (2, (.one (.bp 1 0))), (24, (.one (.sl 2 Zg))), (25, (.one (.int .i64))), (26, (.one (.int .i64)))], [(.box Zk q24), (.box Zk q25), (.row Zg false), (.row Zf false), (.row Zd true), (.row Ze true), (.row Zg true), (.row Zf true), (.row Zd true), (.row Ze true)], 10, []⟩
noncomputable def l63_0 : LE := le0 3 s63_0 (fun st => ZaN ((((sv st 3).I) - ((sv st 4).I)).toNat + 1) ((sv st 3).I) ((sv st 4).I) (bc st 0) (bc st 1) (br st 2) (br st 3) (br st 4) (br st 5) (br st 6) (br st 7) (br st 8) (br st 9)) a63_0
def a63_1 (r_ : V × V × List V × List V × List V × List V × List V × List V × List V × List V) : List (Ex × St) := [((Ex.exit 2), (⟨[(1, (V.bp 0 0)), (2, (V.bp 1 0))], [(0, some (Blk.box Zk (l22 r_.1))), (1, some (Blk.box Zk (l23 r_.2.1))), (2, some (Blk.row Zg false r_.2.2.1)), (3, some (Blk.row Zf false r_.2.2.2.1)), (4, some (Blk.row Zd true r_.2.2.2.2.1)), (5, some (Blk.row Ze true r_.2.2.2.2.2.1)), (6, some (Blk.row Zg true r_.2.2.2.2.2.2.1)), (7, some (Blk.row Zf true r_.2.2.2.2.2.2.2.1)), (8, some (Blk.row Zd true r_.2.2.2.2.2.2.2.2.1)), (9, some (Blk.row Ze true r_.2.2.2.2.2.2.2.2.2))], 10, []⟩ : St))]
def s63_1 : SS := ⟨[(1, (.one (.bp 0 0))), (2, (.one (.bp 1 0))), (49, (.one (.sl 2 Zf))), (50, (.one (.int .i64))), (51, (.one (.int .i64)))], [(.box Zk q26), (.box Zk q25), (.row Zf false), (.row Zg false), (.row Zd true), (.row Ze true), (.row Zg true), (.row Zf true), (.row Zd true), (.row Ze true)], 10, []⟩
noncomputable def l63_1 : LE := le0 8 s63_1 (fun st => ZaO ((((sv st 3).I) - ((sv st 4).I)).toNat + 1) ((sv st 3).I) ((sv st 4).I) (bc st 0) (bc st 1) (br st 2) (br st 3) (br st 4) (br st 5) (br st 6) (br st 7) (br st 8) (br st 9)) a63_1
noncomputable def L63 : Loops := ⟨fun k => (look [(3, [1, 2, 24, 25, 26]), (8, [1, 2, 49, 50, 51])] k).getD [], fun k => (look [(3, [⟨2, some 1, true⟩, ⟨2, some 2, true⟩, ⟨2, some 4, true⟩, ⟨2, some 5, true⟩])] k).getD [], fun k => (look [(3, [1, 2]), (8, [1, 2])] k).getD [], Zcx [l63_0, l63_1], [], fun _ => []⟩
theorem t63_0 (k_ : Nat) : ∀ (v25 : Int) (v26 : Int) (b0 : V) (b1 : V) (r2 : List V) (r3 : List V) (r4 : List V) (r5 : List V) (r6 : List V) (r7 : List V) (r8 : List V) (r9 : List V), Agr id (pk0 a63_0) (ZaN k_ v25 v26 b0 b1 r2 r3 r4 r5 r6 r7 r8 r9) (ZZ c63 L63 (lpB Tryz.f63 0) k_ (s63_0.mk' (stv [.dead, .dead, .dead, vi v25, vi v26] [bx b0, bx b1, rb r2, rb r3, rb r4, rb r5, rb r6, rb r7, rb r8, rb r9]))) := by
  induction k_ with
  | zero => exact fun _ _ _ _ _ _ _ _ _ _ _ _ => g0
  | succ k_ ih => exact fun _ _ _ _ _ _ _ _ _ _ _ _ => gA (g1 (g1 (g2 fun _ => g2 fun _ => g1 (g1 (ih _ _ _ _ _ _ _ _ _ _ _ _) g0) g0) g0) g4) (by kernel_rfl)
theorem t63_1 (k_ : Nat) : ∀ (v50 : Int) (v51 : Int) (b0 : V) (b1 : V) (r2 : List V) (r3 : List V) (r4 : List V) (r5 : List V) (r6 : List V) (r7 : List V) (r8 : List V) (r9 : List V), Agr id (pk0 a63_1) (ZaO k_ v50 v51 b0 b1 r2 r3 r4 r5 r6 r7 r8 r9) (ZZ c63 L63 (lpB Tryz.f63 1) k_ (s63_1.mk' (stv [.dead, .dead, .dead, vi v50, vi v51] [bx b0, bx b1, rb r2, rb r3, rb r4, rb r5, rb r6, rb r7, rb r8, rb r9]))) := by
  induction k_ with
  | zero => exact fun _ _ _ _ _ _ _ _ _ _ _ _ => g0
  | succ k_ ih => exact fun _ _ _ _ _ _ _ _ _ _ _ _ => gA (g1 (g1 (g2 fun _ => g1 (ih _ _ _ _ _ _ _ _ _ _ _ _) g0) g0) g4) (by kernel_rfl)
theorem o63 : ZJ c63 L63 (Z2 Tryz.f63) := GoodAll.ok (l := [l63_0, l63_1]) (.cons 0 (by kernel_rfl) (gd0 (fun st => (((sv st 3).I) - ((sv st 4).I)).toNat + 1) (fun st => t63_0 _ _ _ _ _ _ _ _ _ _ _ _ _) fun st => by kernel_rfl) (.cons 1 (by kernel_rfl) (gd0 (fun st => (((sv st 3).I) - ((sv st 4).I)).toNat + 1) (fun st => t63_1 _ _ _ _ _ _ _ _ _ _ _ _ _) fun st => by kernel_rfl) (.nil))) rfl
noncomputable def e63 : En Tryz.prog tab := enP base [e143, e144, e145, e146, e127] false [] Tryz.func63 (L := L63) o63 [(.agg q9)] (fun a => ZbV (rd a 0)) (fun r_ : V => ((h27 r_), [])) [q28] [] [none] false (by kernel_rfl) fun _ => gA (g2 fun _ => g2 fun _ => g2 fun _ => g2 fun _ => g2 fun _ => g2 fun _ => g4) (by kernel_rfl)
noncomputable def e230m : En Tryz.prog tab := enIns2 base Tryz.func230 (by kernel_rfl) Zg rfl false true 64 rfl ins230 [some Zg, none, some Zg]
set_option maxRecDepth 100000 in
noncomputable def e198 : En Tryz.prog tab := enP base [e85, e127, e230m, e86, Zh3] false [] Tryz.func198 Zar [(.rf Zk q29), (.one (.inl Zb)), (.one (.inl Zb))] (fun a => ZR ((rd a 0).unbox) ((rd a 1).L) ((rd a 2).L)) (fun r_ : Bool × V => ((V.bool r_.1), [(V.rf Zk (l30 r_.2))])) [] [q28] [none, some Zb, some Zb] false (by kernel_rfl) fun _ => gA (g2 fun _ => g1 (g1 g4 (g2 fun _ => g2 fun _ => g2 fun _ => g1 (g2 fun _ => g2 fun _ => g1 (g1 g4 g0) g0) (g2 fun _ => g1 (g1 g4 g0) g0))) (g2 fun _ => g1 (g1 g4 g0) g0)) (by kernel_rfl)
noncomputable def e232s : En Tryz.prog tab := enDel base Tryz.func232 (by kernel_rfl) Zg rfl false del232 ZjS [some Zg, none, none]
noncomputable def c199 : Cfg := Zaz (P := Tryz.prog) (tab := tab) [e232s, Zh3] false []
def a199_0 (r_ : V × List V × List V × List V × List V) : List (Ex × St) := [((Ex.exit 0), (⟨[], [(0, some (Blk.box Zk (l11 r_.1))), (1, some (Blk.row Zg false r_.2.1)), (2, some (Blk.row Zf false r_.2.2.1)), (3, some (Blk.row Zd true r_.2.2.2.1)), (4, some (Blk.row Ze true r_.2.2.2.2))], 5, [0]⟩ : St))]
def s199_0 : SS := ⟨[(0, (.one (.bp 0 0)))], [(.box Zk q12), (.row Zg false), (.row Zf false), (.row Zd true), (.row Ze true)], 5, [0]⟩
noncomputable def l199_0 : LE := le0 2 s199_0 (fun st => Z3 (((((br st 2).length : Nat) : Int) - 10).toNat + 1) (bc st 0) (br st 1) (br st 2) (br st 3) (br st 4)) a199_0
noncomputable def L199 : Loops := ⟨fun k => (look [(2, [0])] k).getD [], fun _ => [], fun k => (look [(2, [])] k).getD [], Zcx [l199_0], [], fun _ => []⟩
theorem t199_0 (k_ : Nat) : ∀ (b0 : V) (r1 : List V) (r2 : List V) (r3 : List V) (r4 : List V), Agr id (pk0 a199_0) (Z3 k_ b0 r1 r2 r3 r4) (ZZ c199 L199 (lpB Tryz.f199 0) k_ (s199_0.mk' (stv [] [bx b0, rb r1, rb r2, rb r3, rb r4]))) := by
  induction k_ with
  | zero => exact fun _ _ _ _ _ => g0
  | succ k_ ih => exact fun _ _ _ _ _ => gA (g1 (g1 (g2 fun _ => ih _ _ _ _ _) g0) g4) (by kernel_rfl)
theorem o199 : ZJ c199 L199 (Z2 Tryz.f199) := GoodAll.ok (l := [l199_0]) (.cons 0 (by kernel_rfl) (gd0 (fun st => ((((br st 2).length : Nat) : Int) - 10).toNat + 1) (fun st => t199_0 _ _ _ _ _ _) fun st => by kernel_rfl) (.nil)) rfl
noncomputable def e199 : En Tryz.prog tab := enP base [e232s, Zh3] false [] Tryz.func199 (L := L199) o199 [(.rf Zk q29), (.one (.int .i64))] (fun a => ZbM ((rd a 0).unbox) ((rd a 1).I)) (fun r_ : V => ((V.tup []), [(V.rf Zk (l30 r_))])) [] [q28] [none, none] false (by kernel_rfl) fun _ => gA (g1 (g1 (g2 fun _ => g2 fun _ => g4) g0) g0) (by kernel_rfl)
noncomputable def c200 : Cfg := Zaz (P := Tryz.prog) (tab := tab) [e83, e233, e199] false []
def a200_0 (r_ : V × List V × List V × List V × List V) : List (Ex × St) := [((Ex.exit 0), (⟨[], [(0, some (Blk.box Zk (l11 r_.1))), (1, some (Blk.row Zg false r_.2.1)), (2, some (Blk.row Zf false r_.2.2.1)), (3, some (Blk.row Zd true r_.2.2.2.1)), (4, some (Blk.row Ze true r_.2.2.2.2))], 5, [0]⟩ : St))]
def s200_0 : SS := ⟨[(0, (.one (.bp 0 0))), (1, (.one (.int .i64))), (6, (.one .bool)), (7, (.one (.int .i64)))], [(.box Zk q12), (.row Zg false), (.row Zf false), (.row Zd true), (.row Ze true)], 5, [0]⟩
noncomputable def l200_0 : LE := le0 7 s200_0 (fun st => Z4 (((((br st 1).length : Nat) : Int) - ((sv st 3).I)).toNat + 1) ((sv st 1).I) ((sv st 2).B) ((sv st 3).I) (bc st 0) (br st 1) (br st 2) (br st 3) (br st 4)) a200_0
noncomputable def L200 : Loops := ⟨fun k => (look [(7, [0, 1, 6, 7])] k).getD [], fun _ => [], fun k => (look [(7, [])] k).getD [], Zcx [l200_0], [], fun _ => []⟩
set_option maxRecDepth 100000 in
theorem t200_0 (k_ : Nat) : ∀ (id1 : Int) (remove6 : Bool) (k7 : Int) (b0 : V) (r1 : List V) (r2 : List V) (r3 : List V) (r4 : List V), Agr id (pk0 a200_0) (Z4 k_ id1 remove6 k7 b0 r1 r2 r3 r4) (ZZ c200 L200 (lpB Tryz.f200 0) k_ (s200_0.mk' (stv [.dead, vi id1, V.bool remove6, vi k7] [bx b0, rb r1, rb r2, rb r3, rb r4]))) := by
  induction k_ with
  | zero => exact fun _ _ _ _ _ _ _ _ => g0
  | succ k_ ih => exact fun _ _ _ _ _ _ _ _ => gA (g1 (g1 (g1 (ih _ _ _ _ _ _ _ _) (g1 (g2 fun _ => ih _ _ _ _ _ _ _ _) (g1 (g1 (ih _ _ _ _ _ _ _ _) g0) g0))) g0) g4) (by kernel_rfl)
theorem o200 : ZJ c200 L200 (Z2 Tryz.f200) := GoodAll.ok (l := [l200_0]) (.cons 0 (by kernel_rfl) (gd0 (fun st => ((((br st 1).length : Nat) : Int) - ((sv st 3).I)).toNat + 1) (fun st => t200_0 _ _ _ _ _ _ _ _ _) fun st => by kernel_rfl) (.nil)) rfl
noncomputable def e200 : En Tryz.prog tab := enP base [e83, e233, e199] false [] Tryz.func200 (L := L200) o200 [(.rf Zk q29), (.one (.int .i64))] (fun a => Zco ((rd a 0).unbox) ((rd a 1).I)) (fun r_ : Int × V => ((vi r_.1), [(V.rf Zk (l30 r_.2))])) [] [q28] [none, none] false (by kernel_rfl) fun _ => gA (g2 fun _ => g1 g4 (g1 (g2 fun _ => g2 fun _ => g4) g0)) (by kernel_rfl)
end Go.Eng.R
open Go Go.Eng Go.Proofs
namespace Go.Eng.R
set_option maxRecDepth 100000 in
noncomputable def e152 : En Tryz.prog tab := enP base [e85, e198, e199, e200, e83] false [] Tryz.func152 Zar [(.rf Zk q29), (.agg q4)] (fun a => Zbj ((rd a 0).unbox) (rd a 1)) (fun r_ : Int × V => ((vi r_.1), [(V.rf Zk (l30 r_.2))])) [] [q28] [none, none] false (by kernel_rfl) fun _ => gA (g2 fun _ => g1 (g1 (g1 (g1 (g1 g4 (g2 fun _ => g1 g4 g4)) (g2 fun _ => g1 g4 g4)) g0) (g1 (g1 g4 (g2 fun _ => g1 g4 g4)) (g2 fun _ => g1 g4 g4))) (g1 (g1 (g1 (g1 (g1 g4 (g2 fun _ => g1 g4 g4)) (g2 fun _ => g1 g4 g4)) g0) (g1 (g1 g4 (g2 fun _ => g1 g4 g4)) (g2 fun _ => g1 g4 g4))) (g1 (g1 g4 (g2 fun _ => g4)) (g1 (g1 g4 (g1 g4 g0)) (g1 (g2 fun _ => g4) (g1 (g2 fun _ => g1 g4 (g1 (g1 (g1 (g1 (g1 g4 (g2 fun _ => g1 g4 (g1 g4 g0))) g0) (g2 fun _ => g1 g4 (g1 g4 g0))) g0) (g2 fun _ => g1 g4 (g1 g4 g0)))) (g1 (g1 g4 (g1 (g1 g4 (g1 (g1 g4 g0) g0)) g0)) g4))))))) (by kernel_rfl)
set_option maxRecDepth 100000 in
noncomputable def e74 : En Tryz.prog tab := enP base [e151, e152, e153] false [] Tryz.func74 Zar [(.rf Zk q29), (.agg q5)] (fun a => Zbr ((rd a 0).unbox) (rd a 1)) (fun r_ : V × V => ((Zdr r_.1), [(V.rf Zk (l30 r_.2))])) [] [q28] [none, none] false (by kernel_rfl) fun _ => gA (g1 g4 (g2 fun _ => g1 (g1 (g1 (g1 g4 g0) (g1 (g1 (g1 g4 (g2 fun _ => g1 (g1 g4 g0) (g2 fun _ => g4))) g0) (g2 fun _ => g1 (g1 g4 g0) (g2 fun _ => g4)))) g0) (g1 (g1 (g1 g4 (g2 fun _ => g1 (g1 g4 g0) (g2 fun _ => g4))) g0) (g2 fun _ => g1 (g1 g4 g0) (g2 fun _ => g4))))) (by kernel_rfl)
noncomputable def e31 : En Tryz.prog tab := enP base [e29, e62, e63, e74] false [] Tryz.func31 Zar [(.agg q9), (.agg q5)] (fun a => Ze6 (rd a 0) (rd a 1)) (fun r_ : V × V => ((V.tup [(h27 r_.1), (Zdr r_.2)]), [])) [q28] [] [none, none] false (by kernel_rfl) fun _ => gA (g2 fun _ => g1 g4 (g2 fun _ => g1 g4 (g1 g4 (g2 fun _ => g2 fun _ => g4)))) (by kernel_rfl)
noncomputable def e53 : En Tryz.prog tab := enT base [] false [] Tryz.func53 Zar [(.one (.inl Zb)), (.one (.inl Zb))] (fun a => ZbW ((rd a 0).L) ((rd a 1).L)) (fun r_ : Bool => ((V.bool r_), [])) [] [] [some Zb, some Zb] false (by kernel_rfl) fun _ => gT g7 (by kernel_rfl)
noncomputable def c32 : Cfg := Zaz (P := Tryz.prog) (tab := tab) [e53] false []
def a32_0 (r_ : Nat × Bool × V × V) : List (Ex × St) := [(Ex.ret, (⟨[(2, (V.bp 0 0)), (3, (V.bp 1 0)), (4, (V.bool r_.2.1))], [(0, some (Blk.box Zk (l21 r_.2.2.1))), (1, some (Blk.box Zk (l21 r_.2.2.2)))], 2, []⟩ : St)), ((Ex.exit 0), (⟨[(2, (V.bp 0 0)), (3, (V.bp 1 0)), (4, V.dead)], [(0, some (Blk.box Zk (l21 r_.2.2.1))), (1, some (Blk.box Zk (l21 r_.2.2.2)))], 2, []⟩ : St))]
def s32_0 : SS := ⟨[(2, (.one (.bp 0 0))), (3, (.one (.bp 1 0))), (5, (.one (.int .i64)))], [(.box Zk q9), (.box Zk q9)], 2, []⟩
noncomputable def l32_0 : LE := le1 4 s32_0 (fun st => Zab (((((gl (bc st 0) 1).length : Nat) : Int) - ((sv st 2).I)).toNat + 1) ((sv st 2).I) (bc st 0) (bc st 1)) a32_0
def a32_1 (r_ : Nat × Bool × V × V) : List (Ex × St) := [(Ex.ret, (⟨[(2, (V.bp 0 0)), (3, (V.bp 1 0)), (4, (V.bool r_.2.1))], [(0, some (Blk.box Zk (l21 r_.2.2.1))), (1, some (Blk.box Zk (l21 r_.2.2.2)))], 2, []⟩ : St)), ((Ex.exit 2), (⟨[(2, (V.bp 0 0)), (3, (V.bp 1 0)), (4, V.dead)], [(0, some (Blk.box Zk (l21 r_.2.2.1))), (1, some (Blk.box Zk (l21 r_.2.2.2)))], 2, []⟩ : St))]
def s32_1 : SS := ⟨[(2, (.one (.bp 0 0))), (3, (.one (.bp 1 0))), (8, (.one (.int .i64)))], [(.box Zk q9), (.box Zk q9)], 2, []⟩
noncomputable def l32_1 : LE := le1 10 s32_1 (fun st => Z5 (((((gl (bc st 0) 2).length : Nat) : Int) - ((sv st 2).I)).toNat + 1) ((sv st 2).I) (bc st 0) (bc st 1)) a32_1
def a32_2 (r_ : Nat × Bool × V × V) : List (Ex × St) := [(Ex.ret, (⟨[(2, (V.bp 0 0)), (3, (V.bp 1 0)), (4, (V.bool r_.2.1))], [(0, some (Blk.box Zk (l21 r_.2.2.1))), (1, some (Blk.box Zk (l21 r_.2.2.2)))], 2, []⟩ : St)), ((Ex.exit 4), (⟨[(2, (V.bp 0 0)), (3, (V.bp 1 0)), (4, V.dead)], [(0, some (Blk.box Zk (l21 r_.2.2.1))), (1, some (Blk.box Zk (l21 r_.2.2.2)))], 2, []⟩ : St))]
def s32_2 : SS := ⟨[(2, (.one (.bp 0 0))), (3, (.one (.bp 1 0))), (9, (.one (.int .i64)))], [(.box Zk q9), (.box Zk q9)], 2, []⟩
noncomputable def l32_2 : LE := le1 15 s32_2 (fun st => Z6 (((((gl (bc st 0) 4).length : Nat) : Int) - ((sv st 2).I)).toNat + 1) ((sv st 2).I) (bc st 0) (bc st 1)) a32_2
def a32_3 (r_ : Nat × Bool) : List (Ex × St) := [(Ex.ret, (⟨[(4, (V.bool r_.2))], [], 0, []⟩ : St)), ((Ex.exit 6), (⟨[(4, V.dead)], [], 0, []⟩ : St))]
def s32_3 : SS := ⟨[(2, (.one (.bp 0 0))), (3, (.one (.bp 1 0))), (10, (.one (.int .i64)))], [(.box Zk q9), (.box Zk q9)], 2, []⟩
noncomputable def l32_3 : LE := le1 20 s32_3 (fun st => Z7 (((((gl (bc st 0) 5).length : Nat) : Int) - ((sv st 2).I)).toNat + 1) ((sv st 2).I) (bc st 0) (bc st 1)) a32_3
noncomputable def L32 : Loops := ⟨fun k => (look [(4, [2, 3, 5]), (10, [2, 3, 8]), (15, [2, 3, 9]), (20, [2, 3, 10])] k).getD [], fun _ => [], fun k => (look [(4, [2, 3, 4]), (10, [2, 3, 4]), (15, [2, 3, 4]), (20, [4])] k).getD [], Zcx [l32_0, l32_1, l32_2, l32_3], [], fun _ => []⟩
set_option maxRecDepth 100000 in
theorem t32_0 (k_ : Nat) : ∀ (i5 : Int) (b0 : V) (b1 : V), Agr id (pk1 a32_0) (Zab k_ i5 b0 b1) (ZZ c32 L32 (lpB Tryz.f32 0) k_ (s32_0.mk' (stv [.dead, .dead, vi i5] [bx b0, bx b1]))) := by
  induction k_ with
  | zero => exact fun _ _ _ => g0
  | succ k_ ih => exact fun _ _ _ => gA (g1 (g1 (g1 (g1 g4 (g1 g4 (g1 g4 (g1 g4 (ih _ _ _))))) g0) g0) g4) (by kernel_rfl)
set_option maxRecDepth 100000 in
theorem t32_1 (k_ : Nat) : ∀ (i8 : Int) (b0 : V) (b1 : V), Agr id (pk1 a32_1) (Z5 k_ i8 b0 b1) (ZZ c32 L32 (lpB Tryz.f32 1) k_ (s32_1.mk' (stv [.dead, .dead, vi i8] [bx b0, bx b1]))) := by
  induction k_ with
  | zero => exact fun _ _ _ => g0
  | succ k_ ih => exact fun _ _ _ => gA (g1 (g1 (g1 (g1 g4 (g1 (g1 (g1 g4 (ih _ _ _)) g0) g0)) g0) g0) g4) (by kernel_rfl)
theorem t32_2 (k_ : Nat) : ∀ (i9 : Int) (b0 : V) (b1 : V), Agr id (pk1 a32_2) (Z6 k_ i9 b0 b1) (ZZ c32 L32 (lpB Tryz.f32 2) k_ (s32_2.mk' (stv [.dead, .dead, vi i9] [bx b0, bx b1]))) := by
  induction k_ with
  | zero => exact fun _ _ _ => g0
  | succ k_ ih => exact fun _ _ _ => gA (g1 (g1 (g1 (g1 g4 (ih _ _ _)) g0) g0) g4) (by kernel_rfl)
theorem t32_3 (k_ : Nat) : ∀ (i10 : Int) (b0 : V) (b1 : V), Agr id (pk1 a32_3) (Z7 k_ i10 b0 b1) (ZZ c32 L32 (lpB Tryz.f32 3) k_ (s32_3.mk' (stv [.dead, .dead, vi i10] [bx b0, bx b1]))) := by
  induction k_ with
  | zero => exact fun _ _ _ => g0
  | succ k_ ih => exact fun _ _ _ => gA (g1 (g1 (g1 (g1 g4 (ih _ _ _)) g0) g0) g4) (by kernel_rfl)
theorem o32 : ZJ c32 L32 (Z2 Tryz.f32) := GoodAll.ok (l := [l32_0, l32_1, l32_2, l32_3]) (.cons 0 (by kernel_rfl) (gd1 (fun st => ((((gl (bc st 0) 1).length : Nat) : Int) - ((sv st 2).I)).toNat + 1) (fun st => t32_0 _ _ _ _) fun st => by kernel_rfl) (.cons 1 (by kernel_rfl) (gd1 (fun st => ((((gl (bc st 0) 2).length : Nat) : Int) - ((sv st 2).I)).toNat + 1) (fun st => t32_1 _ _ _ _) fun st => by kernel_rfl) (.cons 2 (by kernel_rfl) (gd1 (fun st => ((((gl (bc st 0) 4).length : Nat) : Int) - ((sv st 2).I)).toNat + 1) (fun st => t32_2 _ _ _ _) fun st => by kernel_rfl) (.cons 3 (by kernel_rfl) (gd1 (fun st => ((((gl (bc st 0) 5).length : Nat) : Int) - ((sv st 2).I)).toNat + 1) (fun st => t32_3 _ _ _ _) fun st => by kernel_rfl) (.nil))))) rfl
set_option maxRecDepth 100000 in
noncomputable def e32 : En Tryz.prog tab := enP base [e53] false [] Tryz.func32 (L := L32) o32 [(.agg q9), (.agg q9)] (fun a => Zbs (rd a 0) (rd a 1)) (fun r_ : Bool => ((V.bool r_), [])) [] [] [none, none] false (by kernel_rfl) fun _ => gA (g1 g4 (g1 g4 (g1 g4 (g1 g4 (g1 g4 (g1 g4 (g2 fun _ => g1 g4 (g2 fun _ => g1 g4 (g2 fun _ => g1 g4 (g2 fun _ => g1 g4 g4)))))))))) (by kernel_rfl)
noncomputable def e34 : En Tryz.prog tab := enB Tryz.func34 (by kernel_rfl) alive34
noncomputable def c5 : Cfg := Zaz (P := Tryz.prog) (tab := tab) [e27, e28, e29, e30, e31, e32, e34, e33] false []
def a5_0 (r_ : Nat × Bool × List V × Int × V × List V × V × List V × List V × List V × List V × List V × List V × List V × List V) : List (Ex × St) := [(Ex.ret, (⟨[(2, (V.bool r_.2.1)), (3, (V.inl Zaq r_.2.2.1)), (4, (V.bp 0 0)), (5, (vs 1 ZK)), (6, (vi r_.2.2.2.1)), (7, (V.bp 2 0))], [(0, some (Blk.box Zk (l16 r_.2.2.2.2.1))), (1, some (Blk.row ZK true r_.2.2.2.2.2.1)), (2, some (Blk.box Zk (l17 r_.2.2.2.2.2.2.1))), (3, some (Blk.row Zg true r_.2.2.2.2.2.2.2.1)), (4, some (Blk.row Zf false r_.2.2.2.2.2.2.2.2.1)), (5, some (Blk.row Zd true r_.2.2.2.2.2.2.2.2.2.1)), (6, some (Blk.row Ze true r_.2.2.2.2.2.2.2.2.2.2.1)), (7, some (Blk.row Zg true r_.2.2.2.2.2.2.2.2.2.2.2.1)), (8, some (Blk.row Zf false r_.2.2.2.2.2.2.2.2.2.2.2.2.1)), (9, some (Blk.row Zd true r_.2.2.2.2.2.2.2.2.2.2.2.2.2.1)), (10, some (Blk.row Ze true r_.2.2.2.2.2.2.2.2.2.2.2.2.2.2))], 11, []⟩ : St)), ((Ex.exit 0), (⟨[(2, V.dead), (3, (V.inl Zaq r_.2.2.1)), (4, (V.bp 0 0)), (5, (vs 1 ZK)), (6, (vi r_.2.2.2.1)), (7, (V.bp 2 0))], [(0, some (Blk.box Zk (l16 r_.2.2.2.2.1))), (1, some (Blk.row ZK true r_.2.2.2.2.2.1)), (2, some (Blk.box Zk (l17 r_.2.2.2.2.2.2.1))), (3, some (Blk.row Zg true r_.2.2.2.2.2.2.2.1)), (4, some (Blk.row Zf false r_.2.2.2.2.2.2.2.2.1)), (5, some (Blk.row Zd true r_.2.2.2.2.2.2.2.2.2.1)), (6, some (Blk.row Ze true r_.2.2.2.2.2.2.2.2.2.2.1)), (7, some (Blk.row Zg true r_.2.2.2.2.2.2.2.2.2.2.2.1)), (8, some (Blk.row Zf false r_.2.2.2.2.2.2.2.2.2.2.2.2.1)), (9, some (Blk.row Zd true r_.2.2.2.2.2.2.2.2.2.2.2.2.2.1)), (10, some (Blk.row Ze true r_.2.2.2.2.2.2.2.2.2.2.2.2.2.2))], 11, []⟩ : St))]
def s5_0 : SS := ⟨[(3, (.one (.inl Zaq))), (4, (.one (.bp 0 0))), (5, (.one (.sl 1 ZK))), (6, (.one (.int .i64))), (7, (.one (.bp 2 0))), (8, (.one (.sl 3 ZK))), (9, (.one (.int .i64)))], [(.box Zk q31), (.row ZK true), (.box Zk q32), (.row ZK true), (.row Zg true), (.row Zf false), (.row Zd true), (.row Ze true), (.row Zg true), (.row Zf false), (.row Zd true), (.row Ze true)], 12, []⟩
noncomputable def l5_0 : LE := le1 12 s5_0 (fun st => ZM ((((sv st 3).I) - ((sv st 6).I)).toNat + 1) ((sv st 0).L) ((sv st 3).I) ((sv st 6).I) (bc st 0) (br st 1) (bc st 2) (br st 3) (br st 4) (br st 5) (br st 6) (br st 7) (br st 8) (br st 9) (br st 10) (br st 11)) a5_0
def a5_1 (r_ : Nat × Bool × List V × V × List V × V × List V × List V × List V × List V × List V × List V × List V × List V) : List (Ex × St) := [(Ex.ret, (⟨[(2, (V.bool r_.2.1)), (3, (V.inl Zaq r_.2.2.1)), (4, (V.bp 0 0)), (5, (vs 1 ZK)), (7, (V.bp 2 0))], [(0, some (Blk.box Zk (l16 r_.2.2.2.1))), (1, some (Blk.row ZK true r_.2.2.2.2.1)), (2, some (Blk.box Zk (l21 r_.2.2.2.2.2.1))), (3, some (Blk.row Zg true r_.2.2.2.2.2.2.1)), (4, some (Blk.row Zf false r_.2.2.2.2.2.2.2.1)), (5, some (Blk.row Zd true r_.2.2.2.2.2.2.2.2.1)), (6, some (Blk.row Ze true r_.2.2.2.2.2.2.2.2.2.1))], 7, []⟩ : St)), ((Ex.exit 2), (⟨[(2, V.dead), (3, (V.inl Zaq r_.2.2.1)), (4, (V.bp 0 0)), (5, (vs 1 ZK)), (7, (V.bp 2 0))], [(0, some (Blk.box Zk (l16 r_.2.2.2.1))), (1, some (Blk.row ZK true r_.2.2.2.2.1)), (2, some (Blk.box Zk (l17 r_.2.2.2.2.2.1))), (3, some (Blk.row Zg true r_.2.2.2.2.2.2.1)), (4, some (Blk.row Zf false r_.2.2.2.2.2.2.2.1)), (5, some (Blk.row Zd true r_.2.2.2.2.2.2.2.2.1)), (6, some (Blk.row Ze true r_.2.2.2.2.2.2.2.2.2.1)), (7, some (Blk.row Zg false r_.2.2.2.2.2.2.2.2.2.2.1)), (8, some (Blk.row Zf false r_.2.2.2.2.2.2.2.2.2.2.2.1)), (9, some (Blk.row Zd true r_.2.2.2.2.2.2.2.2.2.2.2.2.1)), (10, some (Blk.row Ze true r_.2.2.2.2.2.2.2.2.2.2.2.2.2))], 11, []⟩ : St))]
def s5_1 : SS := ⟨[(3, (.one (.inl Zaq))), (4, (.one (.bp 0 0))), (5, (.one (.sl 1 ZK))), (7, (.one (.bp 2 0))), (10, (.one (.int .i64)))], [(.box Zk q18), (.row ZK true), (.box Zk q19), (.row Zg true), (.row Zf false), (.row Zd true), (.row Ze true), (.row Zg false), (.row Zf false), (.row Zd true), (.row Ze true)], 11, []⟩
noncomputable def l5_1 : LE := le1 17 s5_1 (fun st => ZT (((((br st 1).length : Nat) : Int) - ((sv st 4).I)).toNat + 1) ((sv st 0).L) ((sv st 4).I) (bc st 0) (br st 1) (bc st 2) (br st 3) (br st 4) (br st 5) (br st 6) (br st 7) (br st 8) (br st 9) (br st 10)) a5_1
noncomputable def L5 : Loops := ⟨fun k => (look [(12, [3, 4, 5, 6, 7, 8, 9]), (17, [3, 4, 5, 7, 10])] k).getD [], fun k => (look [(17, [⟨7, some 1, false⟩])] k).getD [], fun k => (look [(12, [2, 3, 4, 5, 6, 7]), (17, [2, 3, 4, 5, 7])] k).getD [], Zcx [l5_0, l5_1], [], fun k => (look [(2, [⟨3, some 1000, true⟩]), (19, [⟨7, some 1001, true⟩, ⟨7, some 1002, true⟩, ⟨7, some 1004, true⟩, ⟨7, some 1005, true⟩])] k).getD []⟩
theorem t5_0 (k_ : Nat) : ∀ (l3 : List V) (n6 : Int) (i9 : Int) (b0 : V) (r1 : List V) (b2 : V) (r3 : List V) (r4 : List V) (r5 : List V) (r6 : List V) (r7 : List V) (r8 : List V) (r9 : List V) (r10 : List V) (r11 : List V), Agr id (pk1 a5_0) (ZM k_ l3 n6 i9 b0 r1 b2 r3 r4 r5 r6 r7 r8 r9 r10 r11) (ZZ c5 L5 (lpB Tryz.f5 0) k_ (s5_0.mk' (stv [V.inl 0 l3, .dead, .dead, vi n6, .dead, .dead, vi i9] [bx b0, rb r1, bx b2, rb r3, rb r4, rb r5, rb r6, rb r7, rb r8, rb r9, rb r10, rb r11]))) := by
  induction k_ with
  | zero => exact fun _ _ _ _ _ _ _ _ _ _ _ _ _ _ _ => g0
  | succ k_ ih => exact fun _ _ _ _ _ _ _ _ _ _ _ _ _ _ _ => gA (g1 (g1 (g1 (g1 g4 (ih _ _ _ _ _ _ _ _ _ _ _ _ _ _ _)) g0) g0) g4) (by kernel_rfl)
theorem t5_1 (k_ : Nat) : ∀ (l3 : List V) (i10 : Int) (b0 : V) (r1 : List V) (b2 : V) (r3 : List V) (r4 : List V) (r5 : List V) (r6 : List V) (r7 : List V) (r8 : List V) (r9 : List V) (r10 : List V), Agr id (pk1 a5_1) (ZT k_ l3 i10 b0 r1 b2 r3 r4 r5 r6 r7 r8 r9 r10) (ZZ c5 L5 (lpB Tryz.f5 1) k_ (s5_1.mk' (stv [V.inl 0 l3, .dead, .dead, .dead, vi i10] [bx b0, rb r1, bx b2, rb r3, rb r4, rb r5, rb r6, rb r7, rb r8, rb r9, rb r10]))) := by
  induction k_ with
  | zero => exact fun _ _ _ _ _ _ _ _ _ _ _ _ _ => g0
  | succ k_ ih => exact fun _ _ _ _ _ _ _ _ _ _ _ _ _ => gA (g1 (g1 (g2 fun _ => g1 (g1 g4 (ih _ _ _ _ _ _ _ _ _ _ _ _ _)) g0) g0) g4) (by kernel_rfl)
theorem o5 : ZJ c5 L5 (Z2 Tryz.f5) := GoodAll.ok (l := [l5_0, l5_1]) (.cons 0 (by kernel_rfl) (gd1 (fun st => (((sv st 3).I) - ((sv st 6).I)).toNat + 1) (fun st => t5_0 _ _ _ _ _ _ _ _ _ _ _ _ _ _ _ _) fun st => by kernel_rfl) (.cons 1 (by kernel_rfl) (gd1 (fun st => ((((br st 1).length : Nat) : Int) - ((sv st 4).I)).toNat + 1) (fun st => t5_1 _ _ _ _ _ _ _ _ _ _ _ _ _ _) fun st => by kernel_rfl) (.nil))) rfl
set_option maxRecDepth 100000 in
noncomputable def e5 : En Tryz.prog tab := enP base [e27, e28, e29, e30, e31, e32, e34, e33] false [] Tryz.func5 (L := L5) o5 [(.one (.inl Zb))] (fun a => ZbX ((rd a 0).L)) (fun r_ : Bool => ((V.bool r_), [])) [] [] [some Zb] false (by kernel_rfl) fun _ => gA (g2 fun _ => g2 fun _ => g2 fun _ => g1 g4 (g1 g4 (g1 g4 (g2 fun _ => g1 (g1 (g2 fun _ => g1 g4 (g1 g4 (g2 fun _ => g1 g4 (g2 fun _ => g1 g4 (g2 fun _ => g1 (g1 g4 (g1 (g2 fun _ => g1 g4 g4) g0)) g4))))) g0) (g1 (g2 fun _ => g1 g4 (g1 g4 (g2 fun _ => g1 g4 (g2 fun _ => g1 g4 (g2 fun _ => g1 (g1 g4 (g1 (g2 fun _ => g1 g4 g4) g0)) g4))))) g0))))) (by kernel_rfl)
end Go.Eng.R
open Go Go.Eng Go.Proofs
namespace Go.Eng.R
end Go.Eng.R
open Go Go.Eng
namespace Go.Eng.R
def W_Row (x : V) : Prop := LW Zal (gl x 0) ∧ LW Zal (gl x 1) ∧ I64 (gi x 2) ∧ I64 (gi x 3)
def W_Tomb (x : V) : Prop := LW Zal (gl x 0) ∧ I64 (gi x 1)
def Zom (x : V) : Prop := I64 (gi x 0) ∧ True
def W_Last (x : V) : Prop := I64 (gi x 0) ∧ I64 (gi x 1) ∧ I64 (gi x 2) ∧ I64 (gi x 3)
def Zew (x : V) : Prop := I64 (gi x 0) ∧ LW W_Row (gl x 1) ∧ LW W_Tomb (gl x 2) ∧ I64 (gi x 3) ∧ LW Zom (gl x 4) ∧ LW W_Last (gl x 5)
def Zdg (x : V) : Prop := I64 (gi x 0) ∧ I64 (gi x 1) ∧ I64 (gi x 2) ∧ LW Zal (gl x 3) ∧ LW Zal (gl x 4) ∧ I64 (gi x 5)
def W_Op (x : V) : Prop := I64 (gi x 0) ∧ LW Zal (gl x 1) ∧ LW Zal (gl x 2) ∧ I64 (gi x 3)
end Go.Eng.R
open Go Go.Eng
namespace Go.Eng.R
theorem Zdt (n lo hi : Int) : ZC n lo hi = decide (lo ≤ n ∧ n ≤ hi) := by
  unfold ZC
  by_cases h : lo ≤ n <;> simp [h]
theorem ZkH (n lo hi : Int) : ZC n lo hi = (!decide (n < lo) && !decide (hi < n)) := by
  rw [Zdt]
  by_cases h1 : n < lo
  · rw [decide_eq_true h1, decide_eq_false (by omega)]; rfl
  · by_cases h2 : hi < n
    · rw [decide_eq_true h2, decide_eq_false (by omega)]; simp
    · rw [decide_eq_false h1, decide_eq_false h2, decide_eq_true (by omega)]; rfl
theorem le_nt (a b : Int) : decide (a ≤ b) = !decide (b < a) := by
  by_cases h : a ≤ b
  · rw [decide_eq_true h, decide_eq_false (by omega)]; rfl
  · rw [decide_eq_false h, decide_eq_true (by omega)]; rfl
theorem ZiL {k n : Nat} (h0 : ¬ k = 0) (h : k ≤ n) (hn : n ≤ 9223372036854775807) : IntKind.i64.wrap ((k : Int) - 1) = ((k - 1 : Nat) : Int) := by rw [ZaK (by omega) (by omega)]; omega
end Go.Eng.R
open Go Go.Eng
namespace Go.Eng.R
def chB (x : V) : Bool := !decide (gi x 0 < 97) && !decide (122 < gi x 0) || decide (gi x 0 = 47)
theorem Zk4 {p : V → Bool} {l : List V} {i : Nat} (h : i < l.length) : (l.take (i + 1)).all p = ((l.take i).all p && p (rd l i)) := by
  rw [List.take_add_one, List.all_append]
  have : l[i]? = some (rd l i) := by simp [rd, List.getD, h]
  rw [this]; simp
theorem ZlW {p : V → Bool} {l : List V} {i : Nat} (h : i < l.length) (hp : p (rd l i) = false) : l.all p = false := by
  rw [List.all_eq_false]
  refine ⟨rd l i, ?_, by simp [hp]⟩
  have : rd l i = l[i] := by simp [rd, List.getD, h]
  rw [this]; exact List.getElem_mem h
theorem ZlX {ρ : Type} {F : Nat → Int → ρ} {l : List V} {p : V → Bool} {yes no : ρ}
    (h1 : ∀ m (i : Nat), i < l.length → F (m + 1) (i : Int) = bif p (rd l i) then F m ((i + 1 : Nat) : Int) else no) (h0 : ∀ m, F (m + 1) (l.length : Int) = yes) :
    F (l.length + 1) 0 = bif l.all p then yes else no := by
  refine ZcN (F := fun m (_ : Unit) i => F m i) (n := l.length) (fun i _ => (l.take i).all p = true) (fun o => o = bif l.all p then yes else no) ?_ ?_ (s := ()) (by simp)
  · intro m i s hi hI
    rw [h1 m i hi]
    cases hp : p (rd l i) with
    | true => exact .inl ⟨(), rfl, by rw [Zk4 hi, hI, hp]; rfl⟩
    | false => exact .inr (by rw [ZlW hi hp]; rfl)
  · intro m s hI
    rw [List.take_length] at hI
    rw [hI]; exact h0 m
def ZbH (b : List V) : Bool := decide (1 ≤ b.length) && (decide (b.length ≤ 20) && b.all chB)
theorem Zk5 {b : List V} (hb : LW Zal b) : Zcl b = some (ZbH b) := by
  have hl := hb.1
  unfold Zcl ZbH
  by_cases h1 : 1 ≤ b.length
  · by_cases h2 : b.length ≤ 20
    · rw [show decide (((b.length : Nat) : Int) < 1) = false from by simp; omega, show decide ((20 : Int) < ((b.length : Nat) : Int)) = false from by simp; omega, cond_false, cond_false, Zbq,
        ZlX (F := fun m i => Za8 m b i) (l := b) (p := chB) (yes := some (1, false)) (no := some (0, false)) ?_ ?_]
      · simp only [h1, h2, decide_true, Bool.true_and]
        cases b.all chB <;> rfl
      · intro m i hi
        simp only [Za8, ZaD hi, Zp hi, Int.toNat_natCast, cond_true, Zax hi hl, chB]
        cases decide (gi (rd b i) 0 < 97) <;> cases decide (122 < gi (rd b i) 0) <;> cases decide (gi (rd b i) 0 = 47) <;> rfl
      · intro m; simp only [Za8, Zas, cond_false]
    · rw [show decide (((b.length : Nat) : Int) < 1) = false from by simp; omega, show decide ((20 : Int) < ((b.length : Nat) : Int)) = true from by simp; omega]
      simp [h2]
  · rw [show decide (((b.length : Nat) : Int) < 1) = true from by simp; omega]
    simp [h1]
theorem ZeY {b : List V} (hb : LW Zal b) : Zbz b = some (ZbH b) := by
  have hl := hb.1
  unfold Zbz ZbH
  rw [Zbq, ZlX (F := fun m i => Za9 m b b ((b.length : Nat) : Int) i) (l := b) (p := chB) (yes := some (1, b, false)) (no := some (0, b, false)) ?_ ?_]
  · cases b.all chB with
    | true => simp only [cond_true, Option.bind_some, Zdt]; simp [Nat.beq]; by_cases h1 : 1 ≤ b.length <;> by_cases h2 : b.length ≤ 20 <;> simp [h1, h2] <;> omega
    | false => simp [Nat.beq]
  · intro m i hi
    simp only [Za9, ZaD hi, Zp hi, Int.toNat_natCast, cond_true, Zax hi hl, chB]
    cases decide (gi (rd b i) 0 < 97) <;> cases decide (122 < gi (rd b i) 0) <;> cases decide (gi (rd b i) 0 = 47) <;> rfl
  · intro m; simp only [Za9, Zas, cond_false]
end Go.Eng.R
open Go Go.Eng
namespace Go.Eng.R
def fI (l : List V) (id : Int) : Int := match Zt (fun i => decide (gi (rd l i) 0 = id)) 0 l.length with | some j => (j : Int) | none => -1
def fK (l : List V) (k : List V) : Int := match Zt (fun i => neq (gl (rd l i) 0) k) 0 l.length with | some j => (j : Int) | none => -1
theorem spec_l2sess_eq {s : V} (hl : (gl s 4).length ≤ 9223372036854775807) (id : Int) : Ziw (Zc s) id = some (fI (gl s 4) id) := by
  unfold Ziw fI
  simp only [show gl (Zc s) 4 = gl s 4 from rfl, show Zc (Zc s) = Zc s from rfl]
  rw [Zbq, show (0 : Int) = ((0 : Nat) : Int) from rfl, ZeO (F := fun m i => ZcK m id i (Zc s)) (n := (gl s 4).length) (q := fun i => decide (gi (rd (gl s 4) i) 0 = id)) (out := fun j => some (0, j)) (no := some (1, 0)) ?_ ?_ ((gl s 4).length + 1) 0 (by omega) (by omega)]
  · rw [Nat.sub_zero]
    cases Zt (fun i => decide (gi (rd (gl s 4) i) 0 = id)) 0 (gl s 4).length <;> rfl
  · intro m i hi
    simp only [ZcK, show gl (Zc s) 4 = gl s 4 from rfl, show Zc (Zc s) = Zc s from rfl, ZaD hi, Zp hi, Int.toNat_natCast, cond_true, Zax hi hl]
  · intro m; simp only [ZcK, show gl (Zc s) 4 = gl s 4 from rfl, Zas, cond_false]
theorem Zem {s : V} (hl : (gl s 4).length ≤ 9223372036854775807) (id : Int) : Zan (Zc s) id = some (fI (gl s 4) id) := by
  unfold Zan Zb3 fI
  rw [show gl (Zc s) 4 = gl s 4 from rfl, Zbq, show (0 : Int) = ((0 : Nat) : Int) from rfl, ZeO (F := fun m i => Z1 m (gl s 4) (V.agg [(V.int .i64 (gi (V.agg [(V.int .i64 id)]) 0))]) (((gl s 4).length : Nat) : Int) i) (n := (gl s 4).length) (q := fun i => decide (gi (rd (gl s 4) i) 0 = id)) (out := fun j => some (0, j)) (no := some (1, 0)) ?_ ?_ ((gl s 4).length + 1) 0 (by omega) (by omega)]
  · rw [Nat.sub_zero]
    cases Zt (fun i => decide (gi (rd (gl s 4) i) 0 = id)) 0 (gl s 4).length <;> rfl
  · intro m i hi
    simp only [Z1, ZaD hi, Zp hi, Int.toNat_natCast, cond_true, Zax hi hl]
    rfl
  · intro m; simp only [Z1, Zas, cond_false]
theorem spec_l2tomb_eq {s : V} (hl : (gl s 2).length ≤ 9223372036854775807) (k : List V) : Ziv (Zc s) k = some (fK (gl s 2) k) := by
  unfold Ziv fK
  simp only [show gl (Zc s) 2 = gl s 2 from rfl, show Zc (Zc s) = Zc s from rfl]
  rw [Zbq, show (0 : Int) = ((0 : Nat) : Int) from rfl, ZeO (F := fun m i => ZcJ m k i (Zc s)) (n := (gl s 2).length) (q := fun i => neq (gl (rd (gl s 2) i) 0) k) (out := fun j => some (0, j)) (no := some (1, 0)) ?_ ?_ ((gl s 2).length + 1) 0 (by omega) (by omega)]
  · rw [Nat.sub_zero]
    cases Zt (fun i => neq (gl (rd (gl s 2) i) 0) k) 0 (gl s 2).length <;> rfl
  · intro m i hi
    simp only [ZcJ, show gl (Zc s) 2 = gl s 2 from rfl, show Zc (Zc s) = Zc s from rfl, ZaD hi, Zp hi, Int.toNat_natCast, cond_true, Zax hi hl]
    rfl
  · intro m; simp only [ZcJ, show gl (Zc s) 2 = gl s 2 from rfl, Zas, cond_false]
theorem ZhI {s : V} (hl : (gl s 2).length ≤ 9223372036854775807) (k : List V) : Zbf (Zc s) k = some (fK (gl s 2) k) := by
  unfold Zbf ZcI fK
  rw [show gl (Zc s) 2 = gl s 2 from rfl, Zbq, show (0 : Int) = ((0 : Nat) : Int) from rfl, ZeO (F := fun m i => Zaa m (gl s 2) (V.agg [(V.inl Zb (gl (V.agg [(V.inl Zb k)]) 0))]) (((gl s 2).length : Nat) : Int) i) (n := (gl s 2).length) (q := fun i => neq (gl (rd (gl s 2) i) 0) k) (out := fun j => some (0, j)) (no := some (1, 0)) ?_ ?_ ((gl s 2).length + 1) 0 (by omega) (by omega)]
  · rw [Nat.sub_zero]
    cases Zt (fun i => neq (gl (rd (gl s 2) i) 0) k) 0 (gl s 2).length <;> rfl
  · intro m i hi
    simp only [Zaa, ZaD hi, Zp hi, Int.toNat_natCast, cond_true, Zax hi hl]
    rfl
  · intro m; simp only [Zaa, Zas, cond_false]
theorem bsK_eq {S : List V} (hS : S.length ≤ 4194304) (ha : AscN (fun r => gl r 0) S) (t : List V) : ZaZ S t = some (((lbN (fun r => gl r 0) S t : Nat) : Int), Zb8 (fun r => gl r 0) S t) := by
  unfold ZaZ
  have hle := Zgk (fun r => gl r 0) S t
  rw [Zbq, show (0 : Int) = ((0 : Nat) : Int) from rfl, Zh1 (F := fun m i j => ZA m S t ((S.length : Nat) : Int) i j) (x := S) (p := fun r => nlt (gl r 0) t) (n0 := lbN (fun r => gl r 0) S t) (out := fun i => some (S, t, ((S.length : Nat) : Int), i)) (by omega) (Zfu ha t) ?_ ?_ (S.length + 1) 0 S.length (by omega) hle (by omega) (by omega)]
  · simp only [Option.bind_some]
    unfold Zb8
    by_cases hc : lbN (fun r => gl r 0) S t < S.length
    · rw [ZaD hc, cond_true, Zp hc, cond_true, Int.toNat_natCast, decide_eq_true hc, Bool.true_and]
      congr 2
      exact ZnE _ _
    · rw [decide_eq_false (p := ((lbN (fun r => gl r 0) S t : Nat) : Int) < ((S.length : Nat) : Int)) (by omega), decide_eq_false hc]
      rfl
  · intro m i j hij hj
    have hw := wr_mid (i := i) (j := j) (by omega)
    simp only [ZA, hw]
    rw [ZaD hij, cond_true, Zp (show (i + j) / 2 < S.length by omega), cond_true, Int.toNat_natCast, Zax (n := S.length) (show (i + j) / 2 < S.length by omega) (by omega)]
    rw [show decide (ZcV (ZgR (rd S ((i + j) / 2))) t < 0) = nlt (gl (rd S ((i + j) / 2)) 0) t from cmpV_neg _ _]
  · intro m i; simp only [ZA, Zas, cond_false]
theorem Zf5 {s : V} (hS : (gl s 1).length ≤ 4194304) (ha : AscN (fun r => gl r 0) (gl s 1)) (t : List V) : Za0 (Zc s) t = some (((lbN (fun r => gl r 0) (gl s 1) t : Nat) : Int), Zb8 (fun r => gl r 0) (gl s 1) t) := by
  unfold Za0
  rw [show gl (Zc s) 1 = gl s 1 from rfl, bsK_eq hS ha]
  rfl
theorem hasN_fK {l : List V} (h : AscN (fun r => gl r 0) l) (t : List V) : Zb8 (fun r => gl r 0) l t = decide (0 ≤ fK l t) := by
  have := ZlN h t
  unfold fK
  rw [this]
  cases Zb8 (fun r => gl r 0) l t with
  | false => rfl
  | true => exact (decide_eq_true (by simp)).symm
def Zfx (s : V) (i : Nat) : Bool := ZbH (gl (rd (gl s 1) i) 0) && (!decide (20 < (((gl (rd (gl s 1) i) 1).length : Nat) : Int)) && (!decide (gi (rd (gl s 1) i) 2 < 1) && (!decide (gi s 0 < gi (rd (gl s 1) i) 2) &&
  ((decide (gi (rd (gl s 1) i) 3 = 0) || !decide (fI (gl s 4) (gi (rd (gl s 1) i) 3) < 0)) && (decide (i = 0) || nlt (gl (rd (gl s 1) (i - 1)) 0) (gl (rd (gl s 1) i) 0))))))
def Zdh (s : V) (i : Nat) : Bool := ZbH (gl (rd (gl s 2) i) 0) && (!decide (0 ≤ fK (gl s 1) (gl (rd (gl s 2) i) 0)) && (decide (fK (gl s 2) (gl (rd (gl s 2) i) 0) = (i : Int)) && (!decide (gi (rd (gl s 2) i) 1 < 1) && (!decide (gi s 0 < gi (rd (gl s 2) i) 1) &&
  (!decide (gi (rd (gl s 2) i) 1 < gi s 3) && (decide (i = 0) || !decide (gi (rd (gl s 2) i) 1 < gi (rd (gl s 2) (i - 1)) 1)))))))
def ZeH (s : V) (i : Nat) : Bool := !decide (gi (rd (gl s 4) i) 0 < 1) && (!decide (gi s 0 < gi (rd (gl s 4) i) 0) && (decide (i = 0) || decide (gi (rd (gl s 4) (i - 1)) 0 < gi (rd (gl s 4) i) 0)))
def Ze7 (s : V) (i : Nat) : Bool := decide (0 ≤ gi (rd (gl s 5) i) 0 ∧ gi (rd (gl s 5) i) 0 ≤ 3 ∧ 1 ≤ gi (rd (gl s 5) i) 1 ∧ gi (rd (gl s 5) i) 1 ≤ 1000000 ∧ 0 ≤ gi (rd (gl s 5) i) 2 ∧ gi (rd (gl s 5) i) 2 ≤ 5 ∧ 1 ≤ gi (rd (gl s 5) i) 3 ∧ gi (rd (gl s 5) i) 3 ≤ gi s 0) &&
  (decide (i = 0) || decide (gi (rd (gl s 5) (i - 1)) 0 < gi (rd (gl s 5) i) 0))
def headB (s : V) : Bool := decide (0 ≤ gi s 0 ∧ gi s 0 ≤ 1000000 ∧ 0 ≤ gi s 3 ∧ gi s 3 ≤ gi s 0 ∧ (gl s 1).length ≤ 20 ∧ (gl s 2).length ≤ 10 ∧ (gl s 4).length ≤ 8 ∧ (gl s 5).length ≤ 4)
def Zbh (s : V) : Bool := headB s && ((List.range (gl s 1).length).all (Zfx s) && ((List.range (gl s 2).length).all (Zdh s) && ((List.range (gl s 4).length).all (ZeH s) && (List.range (gl s 5).length).all (Ze7 s))))
theorem ZlY {s : V} (h : (List.range (gl s 1).length).all (Zfx s) = true) : AscN (fun r => gl r 0) (gl s 1) := by
  intro i hi
  rw [List.all_eq_true] at h
  have := h (i + 1) (List.mem_range.2 hi)
  unfold Zfx at this
  simp only [Bool.and_eq_true] at this
  simpa using this.2.2.2.2.2
theorem ZlZ {s : V} (hs : Zew s) : Zao ((gl s 1).length + 1) (gl s 1) (((gl s 1).length : Nat) : Int) 0 (Zc s) = bif (List.range (gl s 1).length).all (Zfx s) then some (1, false, Zc s) else some (0, false, Zc s) := by
  have hl := hs.2.1.1
  have hk := hs.2.2.2.2.1.1
  refine ZhH (F := fun m i => Zao m (gl s 1) (((gl s 1).length : Nat) : Int) i (Zc s)) (n := (gl s 1).length) (q := Zfx s) (yes := some (1, false, Zc s)) (no := some (0, false, Zc s)) ?_ ?_
  · intro m i hi
    have hw := hs.2.1.rd hi
    simp only [Zao, show gl (Zc s) 1 = gl s 1 from rfl, show gi (Zc s) 0 = gi s 0 from rfl, show Zc (Zc s) = Zc s from rfl, ZaD hi, Zp hi, Int.toNat_natCast, cond_true, Zax hi hl, ZeY hw.1, Option.bind_some, Zem hk, Zb2, ZkH, le_nt _ (20 : Int), Bool.not_not, ZmC]
    unfold Zfx
    cases ZbH (gl (rd (gl s 1) i) 0) <;> try rfl
    cases decide ((20 : Int) < (((gl (rd (gl s 1) i) 1).length : Nat) : Int)) <;> try rfl
    cases decide (gi (rd (gl s 1) i) 2 < 1) <;> try rfl
    cases decide (gi s 0 < gi (rd (gl s 1) i) 2) <;> try rfl
    by_cases h0 : i = 0
    · subst h0
      rw [decide_eq_false (p := (0 : Int) < ((0 : Nat) : Int)) (by omega)]
      cases decide (gi (rd (gl s 1) 0) 3 = 0) <;> cases decide (fI (gl s 4) (gi (rd (gl s 1) 0) 3) < 0) <;> rfl
    · rw [decide_eq_true (p := (0 : Int) < (i : Int)) (by omega), ZiL h0 (Nat.le_of_lt hi) hl, Zp (show i - 1 < (gl s 1).length by omega)]
      simp only [Int.toNat_natCast, decide_eq_false h0]
      cases decide (gi (rd (gl s 1) i) 3 = 0) <;> cases decide (fI (gl s 4) (gi (rd (gl s 1) i) 3) < 0) <;> cases nlt (gl (rd (gl s 1) (i - 1)) 0) (gl (rd (gl s 1) i) 0) <;> rfl
  · intro m; simp only [Zao, Zas, cond_false]; rfl
theorem mx_eq (a b : Int) : mxI a b = max a b := by
  unfold mxI
  by_cases h : a < b <;> simp [h] <;> omega
theorem Zk6 {s : V} (hs : Zew s) (hS : (gl s 1).length ≤ 4194304) (ha : AscN (fun r => gl r 0) (gl s 1)) : ZaF ((gl s 2).length + 1) (mxI 1 (gi s 3)) (gl s 2) (((gl s 2).length : Nat) : Int) 0 (Zc s) = bif (List.range (gl s 2).length).all (Zdh s) then some (1, false, Zc s) else some (0, false, Zc s) := by
  have hr := hs.2.1.1
  have hl := hs.2.2.1.1
  refine ZcN (F := fun m (b : Int) i => ZaF m b (gl s 2) (((gl s 2).length : Nat) : Int) i (Zc s)) (n := (gl s 2).length) (fun i b => (List.range i).all (Zdh s) = true ∧ (b = if i = 0 then max 1 (gi s 3) else gi (rd (gl s 2) (i - 1)) 1) ∧ 1 ≤ b ∧ gi s 3 ≤ b)
    (fun o => o = bif (List.range (gl s 2).length).all (Zdh s) then some (1, false, Zc s) else some (0, false, Zc s)) ?_ ?_ ⟨by simp, by rw [mx_eq]; simp, by rw [mx_eq]; omega, by rw [mx_eq]; omega⟩
  · intro m i b hi hI
    obtain ⟨hall, hb, hb1, hb2⟩ := hI
    have hw := hs.2.2.1.rd hi
    have hno : Zdh s i = false → (List.range (gl s 2).length).all (Zdh s) = false := fun h => by
      rw [List.all_eq_false]
      exact ⟨i, List.mem_range.2 hi, by simp [h]⟩
    simp only [ZaF, show gi (Zc s) 0 = gi s 0 from rfl, show Zc (Zc s) = Zc s from rfl, ZaD hi, Zp hi, Int.toNat_natCast, cond_true, Zax hi hl, ZeY hw.1, Option.bind_some, Zf5 hS ha, ZhI hl, hasN_fK ha, Zdt]
    have ht : Zdh s i = (ZbH (gl (rd (gl s 2) i) 0) && (!decide (0 ≤ fK (gl s 1) (gl (rd (gl s 2) i) 0)) && (decide (fK (gl s 2) (gl (rd (gl s 2) i) 0) = (i : Int)) && decide (b ≤ gi (rd (gl s 2) i) 1 ∧ gi (rd (gl s 2) i) 1 ≤ gi s 0)))) := by
      have e : (!decide (gi (rd (gl s 2) i) 1 < 1) && (!decide (gi s 0 < gi (rd (gl s 2) i) 1) && (!decide (gi (rd (gl s 2) i) 1 < gi s 3) && (decide (i = 0) || !decide (gi (rd (gl s 2) i) 1 < gi (rd (gl s 2) (i - 1)) 1))))) = decide (b ≤ gi (rd (gl s 2) i) 1 ∧ gi (rd (gl s 2) i) 1 ≤ gi s 0) := by
        rw [Bool.eq_iff_iff]
        simp only [Bool.and_eq_true, Bool.or_eq_true, Bool.not_eq_true', decide_eq_true_eq, decide_eq_false_iff_not]
        by_cases h0 : i = 0
        · subst h0
          simp only [if_true] at hb
          omega
        · rw [if_neg h0] at hb
          omega
      unfold Zdh
      rw [e]
    by_cases hq : Zdh s i = true
    · refine .inl ⟨gi (rd (gl s 2) i) 1, ?_, by rw [List.range_succ, List.all_append, hall]; simp [hq], by simp, ?_⟩
      · rw [ht] at hq
        simp only [Bool.and_eq_true, Bool.not_eq_true', decide_eq_true_eq] at hq
        obtain ⟨q1, q2, q3, q4⟩ := hq
        simp only [q1, q2, q3, cond_false, Bool.not_true, decide_eq_true q4, decide_true]
      · rw [ht] at hq
        simp only [Bool.and_eq_true, Bool.not_eq_true', decide_eq_true_eq] at hq
        omega
    · have hq : Zdh s i = false := by simpa using hq
      refine .inr ?_
      rw [hno hq]
      rw [ht] at hq
      cases h1 : decide (0 ≤ fK (gl s 1) (gl (rd (gl s 2) i) 0)) <;> try rfl
      cases h2 : ZbH (gl (rd (gl s 2) i) 0) <;> try rfl
      cases h3 : decide (fK (gl s 2) (gl (rd (gl s 2) i) 0) = (i : Int)) <;> try rfl
      cases h4 : decide (b ≤ gi (rd (gl s 2) i) 1 ∧ gi (rd (gl s 2) i) 1 ≤ gi s 0) <;> try rfl
      rw [h1, h2, h3, h4] at hq
      cases hq
  · intro m b hI
    show ZaF (m + 1) b (gl s 2) (((gl s 2).length : Nat) : Int) (((gl s 2).length : Nat) : Int) (Zc s) = _
    rw [hI.1]
    simp only [ZaF, Zas, cond_false]; rfl
theorem Zl0 {s : V} (hs : Zew s) : ZaG ((gl s 4).length + 1) (gl s 4) (((gl s 4).length : Nat) : Int) 0 (Zc s) = bif (List.range (gl s 4).length).all (ZeH s) then some (1, false, Zc s) else some (0, false, Zc s) := by
  have hl := hs.2.2.2.2.1.1
  refine ZhH (F := fun m i => ZaG m (gl s 4) (((gl s 4).length : Nat) : Int) i (Zc s)) (n := (gl s 4).length) (q := ZeH s) (yes := some (1, false, Zc s)) (no := some (0, false, Zc s)) ?_ ?_
  · intro m i hi
    simp only [ZaG, show gl (Zc s) 4 = gl s 4 from rfl, show gi (Zc s) 0 = gi s 0 from rfl, show Zc (Zc s) = Zc s from rfl, ZaD hi, Zp hi, Int.toNat_natCast, cond_true, Zax hi hl, ZkH]
    unfold ZeH
    cases decide (gi (rd (gl s 4) i) 0 < 1) <;> try rfl
    cases decide (gi s 0 < gi (rd (gl s 4) i) 0) <;> try rfl
    by_cases h0 : i = 0
    · subst h0
      rw [decide_eq_false (p := (0 : Int) < ((0 : Nat) : Int)) (by omega)]
      rfl
    · rw [decide_eq_true (p := (0 : Int) < (i : Int)) (by omega), ZiL h0 (Nat.le_of_lt hi) hl, Zp (show i - 1 < (gl s 4).length by omega), Int.toNat_natCast, decide_eq_false h0, le_nt (gi (rd (gl s 4) i) 0)]
      cases decide (gi (rd (gl s 4) (i - 1)) 0 < gi (rd (gl s 4) i) 0) <;> rfl
  · intro m; simp only [ZaG, Zas, cond_false]; rfl
theorem ZnI {s : V} {i : Nat} : Ze7 s i = (decide (0 ≤ gi (rd (gl s 5) i) 0 ∧ gi (rd (gl s 5) i) 0 ≤ 3 ∧ 1 ≤ gi (rd (gl s 5) i) 1 ∧ gi (rd (gl s 5) i) 1 ≤ 1000000 ∧ 0 ≤ gi (rd (gl s 5) i) 2 ∧ gi (rd (gl s 5) i) 2 ≤ 5 ∧ 1 ≤ gi (rd (gl s 5) i) 3 ∧ gi (rd (gl s 5) i) 3 ≤ gi s 0) &&
  (decide (i = 0) || decide (gi (rd (gl s 5) (i - 1)) 0 < gi (rd (gl s 5) i) 0))) := rfl
theorem Zk7 {s : V} (hs : Zew s) : ZaH ((gl s 5).length + 1) (gl s 5) (((gl s 5).length : Nat) : Int) 0 (Zc s) = bif (List.range (gl s 5).length).all (Ze7 s) then some (1, false) else some (0, false) := by
  have hl := hs.2.2.2.2.2.1
  refine ZhH (F := fun m i => ZaH m (gl s 5) (((gl s 5).length : Nat) : Int) i (Zc s)) (n := (gl s 5).length) (q := Ze7 s) (yes := some (1, false)) (no := some (0, false)) ?_ ?_
  · intro m i hi
    simp only [ZaH, show gl (Zc s) 5 = gl s 5 from rfl, show gi (Zc s) 0 = gi s 0 from rfl, show Zc (Zc s) = Zc s from rfl, ZaD hi, Zp hi, Int.toNat_natCast, cond_true, Zax hi hl, Zdt]
    rw [ZnI]
    by_cases hc : 0 ≤ gi (rd (gl s 5) i) 0 ∧ gi (rd (gl s 5) i) 0 ≤ 3 ∧ 1 ≤ gi (rd (gl s 5) i) 1 ∧ gi (rd (gl s 5) i) 1 ≤ 1000000 ∧ 0 ≤ gi (rd (gl s 5) i) 2 ∧ gi (rd (gl s 5) i) 2 ≤ 5 ∧ 1 ≤ gi (rd (gl s 5) i) 3 ∧ gi (rd (gl s 5) i) 3 ≤ gi s 0
    · rw [decide_eq_true hc, decide_eq_true (p := 0 ≤ gi (rd (gl s 5) i) 0 ∧ gi (rd (gl s 5) i) 0 ≤ 3) (by omega), decide_eq_true (p := 1 ≤ gi (rd (gl s 5) i) 1 ∧ gi (rd (gl s 5) i) 1 ≤ 1000000) (by omega), decide_eq_true (p := 0 ≤ gi (rd (gl s 5) i) 2 ∧ gi (rd (gl s 5) i) 2 ≤ 5) (by omega), decide_eq_true (p := 1 ≤ gi (rd (gl s 5) i) 3 ∧ gi (rd (gl s 5) i) 3 ≤ gi s 0) (by omega)]
      by_cases h0 : i = 0
      · subst h0
        rw [decide_eq_false (p := (0 : Int) < ((0 : Nat) : Int)) (by omega)]
        rfl
      · rw [decide_eq_true (p := (0 : Int) < (i : Int)) (by omega), ZiL h0 (Nat.le_of_lt hi) hl, Zp (show i - 1 < (gl s 5).length by omega)]
        simp only [Int.toNat_natCast, decide_eq_false h0, le_nt (gi (rd (gl s 5) i) 0)]
        cases decide (gi (rd (gl s 5) (i - 1)) 0 < gi (rd (gl s 5) i) 0) <;> rfl
    · rw [decide_eq_false hc, Bool.false_and, cond_false]
      cases h1 : decide (0 ≤ gi (rd (gl s 5) i) 0 ∧ gi (rd (gl s 5) i) 0 ≤ 3) <;> try rfl
      cases h2 : decide (1 ≤ gi (rd (gl s 5) i) 1 ∧ gi (rd (gl s 5) i) 1 ≤ 1000000) <;> try rfl
      cases h3 : decide (0 ≤ gi (rd (gl s 5) i) 2 ∧ gi (rd (gl s 5) i) 2 ≤ 5) <;> try rfl
      cases h4 : decide (1 ≤ gi (rd (gl s 5) i) 3 ∧ gi (rd (gl s 5) i) 3 ≤ gi s 0) <;> try rfl
      rw [decide_eq_true_eq] at h1 h2 h3 h4
      exact absurd (by omega) hc
  · intro m; simp only [ZaH, Zas, cond_false]
theorem ZfO {s : V} (hs : Zew s) : Zds (Zc s) = some (Zbh s) := by
  unfold Zds Zbh
  simp only [show gl (Zc s) 1 = gl s 1 from rfl, show gl (Zc s) 2 = gl s 2 from rfl, show gl (Zc s) 4 = gl s 4 from rfl, show gl (Zc s) 5 = gl s 5 from rfl, show gi (Zc s) 0 = gi s 0 from rfl, show gi (Zc s) 3 = gi s 3 from rfl, show Zc (Zc s) = Zc s from rfl, Zbq, Zdt]
  by_cases hh : 0 ≤ gi s 0 ∧ gi s 0 ≤ 1000000 ∧ 0 ≤ gi s 3 ∧ gi s 3 ≤ gi s 0 ∧ (gl s 1).length ≤ 20 ∧ (gl s 2).length ≤ 10 ∧ (gl s 4).length ≤ 8 ∧ (gl s 5).length ≤ 4
  · rw [show headB s = true from decide_eq_true hh, decide_eq_true (p := 0 ≤ gi s 0 ∧ gi s 0 ≤ 1000000) (by omega), decide_eq_true (p := 0 ≤ gi s 3 ∧ gi s 3 ≤ gi s 0) (by omega), decide_eq_false (p := (20 : Int) < (((gl s 1).length : Nat) : Int)) (by omega), decide_eq_false (p := (10 : Int) < (((gl s 2).length : Nat) : Int)) (by omega), decide_eq_false (p := (8 : Int) < (((gl s 4).length : Nat) : Int)) (by omega), decide_eq_false (p := (4 : Int) < (((gl s 5).length : Nat) : Int)) (by omega)]
    simp only [Bool.not_true, cond_false, Bool.true_and, ZlZ hs]
    cases hr : (List.range (gl s 1).length).all (Zfx s) <;> simp only [cond_true, cond_false, Option.bind_some] <;> try rfl
    simp only [show Nat.beq 1 0 = false from rfl, cond_false, show Zc (Zc s) = Zc s from rfl, show gl (Zc s) 2 = gl s 2 from rfl, show gi (Zc s) 3 = gi s 3 from rfl, Zk6 hs (by omega) (ZlY hr)]
    cases (List.range (gl s 2).length).all (Zdh s) <;> simp only [cond_true, cond_false, Option.bind_some] <;> try rfl
    simp only [show Nat.beq 1 0 = false from rfl, cond_false, show Zc (Zc s) = Zc s from rfl, show gl (Zc s) 4 = gl s 4 from rfl, Zl0 hs]
    cases (List.range (gl s 4).length).all (ZeH s) <;> simp only [cond_true, cond_false, Option.bind_some] <;> try rfl
    simp only [show Nat.beq 1 0 = false from rfl, cond_false, show Zc (Zc s) = Zc s from rfl, show gl (Zc s) 5 = gl s 5 from rfl, Zk7 hs]
    cases (List.range (gl s 5).length).all (Ze7 s) <;> rfl
  · rw [show headB s = false from decide_eq_false hh, Bool.false_and]
    cases h1 : decide (0 ≤ gi s 0 ∧ gi s 0 ≤ 1000000) <;> try rfl
    cases h4 : decide (0 ≤ gi s 3 ∧ gi s 3 ≤ gi s 0) <;> try rfl
    cases h2 : decide ((20 : Int) < (((gl s 1).length : Nat) : Int)) <;> try rfl
    cases h3 : decide ((10 : Int) < (((gl s 2).length : Nat) : Int)) <;> try rfl
    cases h6 : decide ((8 : Int) < (((gl s 4).length : Nat) : Int)) <;> try rfl
    cases h7 : decide ((4 : Int) < (((gl s 5).length : Nat) : Int)) <;> try rfl
    simp only [decide_eq_false_iff_not, decide_eq_true_eq] at h1 h2 h3 h4 h6 h7
    exact absurd (by omega) hh
end Go.Eng.R
open Go Go.Eng
namespace Go.Eng.R
def Ok {α : Type} (P : α → Prop) (o : Option α) : Prop := ∃ x, o = some x ∧ P x
theorem Ok.bind {α β : Type} {P : β → Prop} {Q : α → Prop} {o : Option α} {f : α → Option β} (h : Ok Q o) (g : ∀ x, Q x → Ok P (f x)) : Ok P (Option.bind o f) := by
  obtain ⟨x, rfl, hx⟩ := h
  exact g x hx
theorem Ok.ret {α : Type} {P : α → Prop} {x : α} (h : P x) : Ok P (some x) := ⟨x, rfl, h⟩
theorem Ok.chk {α : Type} {P : α → Prop} {b : Bool} {x : Option α} (h : b = true) (g : Ok P x) : Ok P (bif b then x else none) := by subst h; exact g
theorem Ok.ite {α : Type} {P : α → Prop} {b : Bool} {x y : Option α} (g1 : b = true → Ok P x) (g2 : b = false → Ok P y) : Ok P (bif b then x else y) := by
  cases b with
  | true => exact g1 rfl
  | false => exact g2 rfl
theorem Ok.iteT {α : Type} {P : α → Prop} {b : Bool} {x y : Option α} (h : b = true) (g : Ok P x) : Ok P (bif b then x else y) := by subst h; exact g
theorem Ok.iteF {α : Type} {P : α → Prop} {b : Bool} {x y : Option α} (h : b = false) (g : Ok P y) : Ok P (bif b then x else y) := by subst h; exact g
def Ok2 {α β : Type} (P : α → β → Prop) (o : Option (α × β)) : Prop := ∃ x y, o = some (x, y) ∧ P x y
theorem Ok.bind2 {α β γ : Type} {P : γ → Prop} {Q : α → β → Prop} {o : Option (α × β)} {f : α × β → Option γ} (h : Ok2 Q o) (g : ∀ x y, Q x y → Ok P (f (x, y))) : Ok P (Option.bind o f) := by
  obtain ⟨x, y, rfl, hx⟩ := h
  exact g x y hx
theorem Ok2.of {α β : Type} {Q : α → β → Prop} {o : Option (α × β)} (h : Ok (fun r => Q r.1 r.2) o) : Ok2 Q o := by
  obtain ⟨⟨x, y⟩, e, hx⟩ := h
  exact ⟨x, y, e, hx⟩
theorem wrI (n : Int) : I64 (IntKind.i64.wrap n) := by unfold I64; rw [IntKind.wrap_i64]; omega
theorem LW.snoc {W : V → Prop} {l : List V} {x : V} (h : LW W l) (hl : l.length < 9223372036854775807) (hx : W x) : LW W (l ++ [x]) := by
  refine ⟨by simp; omega, fun y hy => ?_⟩
  rcases List.mem_append.1 hy with hy | hy
  · exact h.2 y hy
  · simp at hy; subst hy; exact hx
theorem LW.set' {W : V → Prop} {l : List V} {x : V} (h : LW W l) (j : Nat) (hx : W x) : LW W (l.set j x) := by
  refine ⟨by simpa using h.1, fun y hy => ?_⟩
  rcases List.mem_or_eq_of_mem_set hy with hy | hy
  · exact h.2 y hy
  · subst hy; exact hx
theorem LW.rep {W : V → Prop} {n : Nat} {x : V} (hn : n ≤ 9223372036854775807) (hx : W x) : LW W (List.replicate n x) :=
  ⟨by simpa using hn, fun y hy => by rw [List.mem_replicate] at hy; rw [hy.2]; exact hx⟩
theorem idx_of {i : Int} {n : Nat} (h0 : 0 ≤ i) (h1 : i < (n : Int)) : Zm i n = true := by simp [Zm]; omega
theorem room_of {n b : Nat} (h : n * b ≤ 140737488355328) (h1 : n ≤ 9223372036854775807) : (Zah n b && true) = true := by rw [ZgN h h1]; rfl
def allI : List V → Prop
  | [] => True
  | x :: l => I64 (gi x 0) ∧ allI l
theorem Zm7 : ∀ {l : List V}, allI l → ∀ j, j < l.length → I64 (gi (rd l j) 0)
  | [], _, j, h => by simp at h
  | x :: l, ⟨h, _⟩, 0, _ => h
  | x :: l, ⟨_, h⟩, j + 1, hj => Zm7 h j (by simpa using hj)
theorem gi_v0 (k : IntKind) (n : Int) : gi (V.int k n) 0 = n := rfl
theorem LW.takeL {W : V → Prop} {l : List V} (h : LW W l) (n : Nat) : LW W (l.take n) := ⟨by have := h.1; rw [List.length_take]; omega, fun x hx => h.2 x (List.mem_of_mem_take hx)⟩
theorem LW.dropL {W : V → Prop} {l : List V} (h : LW W l) (n : Nat) : LW W (l.drop n) := ⟨by have := h.1; rw [List.length_drop]; omega, fun x hx => h.2 x (List.mem_of_mem_drop hx)⟩
theorem W_int.mk {n : Int} (h : I64 n) : W_int (V.int .i64 n) := h
end Go.Eng.R
open Go Go.Eng
namespace Go.Eng.R
theorem Zh4 (a : Int) {b : Int} (h0 : 0 ≤ b) (h1 : b ≤ 9223372036854775807) : 0 ≤ bAnd .i64 a b ∧ bAnd .i64 a b ≤ b := by
  unfold bAnd
  have e : (BitVec.ofInt (IntKind.bits .i64) b).toNat = b.toNat := by
    rw [BitVec.toNat_ofInt]
    rw [Int.emod_eq_of_lt h0 (by show b < ((2 ^ 64 : Nat) : Int); omega)]
  have h : (BitVec.ofInt (IntKind.bits .i64) a &&& BitVec.ofInt (IntKind.bits .i64) b).toNat ≤ b.toNat := by
    rw [BitVec.toNat_and, e]
    exact Nat.and_le_right
  rw [ZaK (by omega) (by omega)]
  omega
def Z8 (c : V) : Prop := LW Zal (gl c 0) ∧ 0 ≤ gi c 1 ∧ gi c 1 ≤ (((gl c 0).length : Nat) : Int)
theorem Zd4 {c : V} (h : Z8 c) : ∃ x c', ZbQ (Za c) = some (x, c') ∧ Z8 c' ∧ 0 ≤ x ∧ x ≤ 255 ∧ gl c' 0 = gl c 0 := by
  obtain ⟨h1, h2, h3⟩ := h
  have hl := h1.1
  unfold ZbQ
  simp only [show gl (Za c) 0 = gl c 0 from rfl, show gi (Za c) 1 = gi c 1 from rfl]
  by_cases hc : gi c 1 < (((gl c 0).length : Nat) : Int)
  · rw [decide_eq_true hc, show Zm (gi c 1) (gl c 0).length = true from by simp [Zm]; omega]
    simp only [cond_true]
    refine ⟨_, _, rfl, ⟨h1, ?_, ?_⟩, (Zh4 _ (by decide) (by decide)).1, (Zh4 _ (by decide) (by decide)).2, rfl⟩
    · show 0 ≤ IntKind.i64.wrap (gi c 1 + 1)
      rw [ZaK (by omega) (by omega)]; omega
    · show IntKind.i64.wrap (gi c 1 + 1) ≤ _
      rw [ZaK (by omega) (by omega)]; show gi c 1 + 1 ≤ (((gl c 0).length : Nat) : Int); omega
  · rw [decide_eq_false hc]
    simp only [cond_false]
    exact ⟨_, _, rfl, ⟨h1, h2, h3⟩, (Zh4 _ (by decide) (by decide)).1, (Zh4 _ (by decide) (by decide)).2, rfl⟩
theorem Zfb {x n : Int} (hx : 0 ≤ x) (hn : 0 < n) : 0 ≤ x.tmod n ∧ x.tmod n < n := by
  rw [Int.tmod_eq_emod_of_nonneg hx]
  exact ⟨Int.emod_nonneg _ (by omega), Int.emod_lt_of_pos _ hn⟩
theorem ZgT {c : V} (h : Z8 c) {n : Int} (hn : 0 < n) : ∃ x c', Zh (Za c) n = some (x, c') ∧ Z8 c' ∧ 0 ≤ x ∧ x < n := by
  unfold Zh
  rw [decide_eq_false (p := n ≤ 0) (by omega), decide_eq_false (p := n = 0) (by omega)]
  simp only [cond_false, show Za (Za c) = Za c from rfl]
  obtain ⟨x, c', e, h', x0, x1, -⟩ := Zd4 h
  by_cases h2 : n ≤ 256
  · rw [decide_eq_true h2, e]
    exact ⟨_, _, rfl, h', (Zfb x0 hn).1, (Zfb x0 hn).2⟩
  · rw [decide_eq_false h2, e]
    obtain ⟨x2, c2, e2, h2', y0, y1, -⟩ := Zd4 h'
    obtain ⟨x3, c3, e3, h3', z0', z1, -⟩ := Zd4 h2'
    obtain ⟨x4, c4, e4, h4', w0, w1, -⟩ := Zd4 h3'
    simp only [Option.bind_some, e2, e3, e4, cond_false, Bool.not_false, cond_true]
    have hs : IntKind.i64.wrap (IntKind.i64.wrap (IntKind.i64.wrap (IntKind.i64.wrap (x * 16777216) + IntKind.i64.wrap (x2 * 65536)) + IntKind.i64.wrap (x3 * 256)) + x4) = x * 16777216 + x2 * 65536 + x3 * 256 + x4 := by
      rw [ZaK (n := x * 16777216) (by omega) (by omega), ZaK (n := x2 * 65536) (by omega) (by omega), ZaK (n := x3 * 256) (by omega) (by omega), ZaK (n := x * 16777216 + x2 * 65536) (by omega) (by omega), ZaK (n := x * 16777216 + x2 * 65536 + x3 * 256) (by omega) (by omega), ZaK (by omega) (by omega)]
    rw [hs]
    have hm := Zfb (x := x * 16777216 + x2 * 65536 + x3 * 256 + x4) (by omega) hn
    exact ⟨_, _, rfl, h4', hm.1, hm.2⟩
theorem Zm8 {c : V} (h : Z8 c) {l : List V} (hl : 0 < l.length) : ∃ j c', ZQ (Za c) l = some (gi (rd l j) 0, c') ∧ Z8 c' ∧ j < l.length := by
  obtain ⟨x, c', e, h', x0, x1⟩ := ZgT h (n := ((l.length : Nat) : Int)) (by omega)
  unfold ZQ
  rw [show Za (Za c) = Za c from rfl, e]
  simp only [Option.bind_some]
  rw [show Zm x l.length = true from by simp [Zm]; omega]
  exact ⟨x.toNat, _, rfl, h', by omega⟩
theorem new_ok {code : List V} (h : LW Zal code) : ∃ c, Zek code = some c ∧ Z8 c := by
  unfold Zek
  rw [Zbq]
  have key := ZcN (F := fun m s i => ZbG m code s i) (n := code.length) (I := fun _ _ => True) (Q := fun r => ∃ s, r = some (code, s)) ?_ ?_ (s := IntKind.i64.wrap (36565 + ((code.length : Nat) : Int))) trivial
  · obtain ⟨s, e⟩ := key
    refine ⟨_, congrArg (fun o => Option.bind o _) e, h, by show (0 : Int) ≤ 0; decide, by show (0 : Int) ≤ ((code.length : Nat) : Int); omega⟩
  · intro m i s hi _
    simp only [ZbG, ZaD hi, Zp hi, cond_true, Zax hi h.1]
    by_cases h4 : (i : Int) < 4000
    · rw [decide_eq_true h4]; exact .inl ⟨_, rfl, trivial⟩
    · rw [decide_eq_false h4]; exact .inr ⟨_, rfl⟩
  · intro m s _
    simp only [ZbG, Zas, cond_false]
    exact ⟨_, rfl⟩
theorem tmod_O {x n : Int} (h0 : 0 ≤ x) (h1 : 0 < n) : 0 ≤ x.tmod n ∧ x.tmod n ≤ x ∧ x.tmod n < n := by
  have := Zfb h0 h1
  refine ⟨this.1, ?_, this.2⟩
  rw [Int.tmod_eq_emod_of_nonneg h0]
  have h2 := Int.mul_ediv_add_emod x n
  have h3 : 0 ≤ n * (x / n) := Int.mul_nonneg (by omega) (Int.ediv_nonneg h0 (by omega))
  omega
theorem Zm9 {c : V} (h : Z8 c) (n : Int) : Ok (fun r => Z8 r.2 ∧ 0 ≤ r.1 ∧ r.1 ≤ 4294967295 ∧ (r.1 < n ∨ r.1 = 0)) (Zh (Za c) n) := by
  by_cases hn : 0 < n
  · unfold Zh
    rw [decide_eq_false (p := n ≤ 0) (by omega), decide_eq_false (p := n = 0) (by omega)]
    simp only [cond_false, show Za (Za c) = Za c from rfl]
    obtain ⟨x, c', e, h', x0, x1, -⟩ := Zd4 h
    by_cases h2 : n ≤ 256
    · rw [decide_eq_true h2, e]
      obtain ⟨m0, m1, m2⟩ := tmod_O x0 hn
      exact ⟨_, rfl, h', m0, by show x.tmod n ≤ _; omega, .inl m2⟩
    · rw [decide_eq_false h2, e]
      obtain ⟨x2, c2, e2, h2', y0, y1, -⟩ := Zd4 h'
      obtain ⟨x3, c3, e3, h3', z0', z1, -⟩ := Zd4 h2'
      obtain ⟨x4, c4, e4, h4', w0, w1, -⟩ := Zd4 h3'
      simp only [Option.bind_some, e2, e3, e4, cond_false, Bool.not_false, cond_true]
      have hs : IntKind.i64.wrap (IntKind.i64.wrap (IntKind.i64.wrap (IntKind.i64.wrap (x * 16777216) + IntKind.i64.wrap (x2 * 65536)) + IntKind.i64.wrap (x3 * 256)) + x4) = x * 16777216 + x2 * 65536 + x3 * 256 + x4 := by
        rw [ZaK (n := x * 16777216) (by omega) (by omega), ZaK (n := x2 * 65536) (by omega) (by omega), ZaK (n := x3 * 256) (by omega) (by omega), ZaK (n := x * 16777216 + x2 * 65536) (by omega) (by omega), ZaK (n := x * 16777216 + x2 * 65536 + x3 * 256) (by omega) (by omega), ZaK (by omega) (by omega)]
      rw [hs]
      obtain ⟨m0, m1, m2⟩ := tmod_O (x := x * 16777216 + x2 * 65536 + x3 * 256 + x4) (by omega) hn
      exact ⟨_, rfl, h4', m0, by show Int.tmod _ n ≤ _; omega, .inl m2⟩
  · unfold Zh
    rw [decide_eq_true (p := n ≤ 0) (by omega)]
    exact ⟨_, rfl, h, by show (0 : Int) ≤ 0; omega, by show (0 : Int) ≤ 4294967295; omega, .inr rfl⟩
theorem once_O {c : V} (h : Z8 c) (n : Int) : Ok (fun r => Z8 r.2) (ZaL (Za c) n) := by
  obtain ⟨x, e, h', -⟩ := Zm9 h n
  unfold ZaL
  rw [show Za (Za c) = Za c from rfl, e]
  exact ⟨_, rfl, h'⟩
theorem pick_O {c : V} (h : Z8 c) {l : List V} (hl : 0 < l.length) (ha : allI l) : Ok (fun r => Z8 r.2 ∧ I64 r.1) (ZQ (Za c) l) := by
  obtain ⟨j, c', e, h1, h2⟩ := Zm8 h hl
  exact ⟨_, e, h1, Zm7 ha j h2⟩
theorem new_O {code : List V} (h : LW Zal code) : Ok Z8 (Zek code) := by
  obtain ⟨c, e, h1⟩ := new_ok h
  exact ⟨_, e, h1⟩
theorem nn_cur (c : V) : Za (Za c) = Za c := rfl
theorem Zfc {c : V} (h : Z8 c) (n : Int) : Ok2 (fun x c => Z8 c ∧ 0 ≤ x ∧ x ≤ 4294967295 ∧ (x < n ∨ x = 0)) (Zh (Za c) n) := .of (Zm9 h n)
theorem ZeR {c : V} (h : Z8 c) (n : Int) : Ok2 (fun (x : Bool) c => Z8 c) (ZaL (Za c) n) := .of (once_O h n)
theorem ZhJ {c : V} (h : Z8 c) {l : List V} (hl : 0 < l.length) (ha : allI l) : Ok2 (fun x c => Z8 c ∧ I64 x) (ZQ (Za c) l) := .of (pick_O h hl ha)
end Go.Eng.R
open Go Go.Eng
namespace Go.Eng.R
set_option maxRecDepth 100000
def BS (l : List V) : Prop := LW Zal l ∧ l.length ≤ 20
def bsB (l : List V) : Bool := l.all (fun x => decide (0 ≤ gi x 0 ∧ gi x 0 ≤ 255)) && decide (l.length ≤ 20)
theorem ZgU {l : List V} (h : bsB l = true) : BS l := by
  unfold bsB at h
  simp only [Bool.and_eq_true, List.all_eq_true, decide_eq_true_eq] at h
  exact ⟨⟨by omega, fun x hx => h.1 x hx⟩, h.2⟩
theorem BS.nil : BS [] := ZgU rfl
theorem Zon {c : V} (h : Z8 c) : Ok2 (fun x c => Z8 c ∧ BS x) (ZbU (Za c)) := by
  obtain ⟨x, c', e, h', x0, x1⟩ := ZgT h (n := 5) (by decide)
  unfold ZbU
  rw [show Za (Za c) = Za c from rfl, e]
  simp only [Option.bind_some]
  rw [show Zm x 5 = true from by simp [Zm]; omega]
  obtain ⟨j, rfl⟩ := Int.eq_ofNat_of_zero_le x0
  have hj : j = 0 ∨ j = 1 ∨ j = 2 ∨ j = 3 ∨ j = 4 := by omega
  rcases hj with rfl | rfl | rfl | rfl | rfl <;> exact ⟨_, _, rfl, h', ZgU rfl⟩
theorem Zoo {c : V} (h : Z8 c) : Ok2 (fun x c => Z8 c ∧ BS x) (ZaY (Za c)) := by
  obtain ⟨x, c', e, h', x0, x1⟩ := ZgT h (n := 5) (by decide)
  unfold ZaY
  rw [show Za (Za c) = Za c from rfl, e]
  simp only [Option.bind_some]
  rw [show Zm x 5 = true from by simp [Zm]; omega]
  obtain ⟨j, rfl⟩ := Int.eq_ofNat_of_zero_le x0
  have hj : j = 0 ∨ j = 1 ∨ j = 2 ∨ j = 3 ∨ j = 4 := by omega
  rcases hj with rfl | rfl | rfl | rfl | rfl <;> exact ⟨_, _, rfl, h', ZgU rfl⟩
end Go.Eng.R
open Go Go.Eng
namespace Go.Eng.R
set_option maxRecDepth 100000
structure SD where
  idx : Int
  rows : List V
  tombs : List V
  lost : Int
  sess : List V
  lasts : List V
def SD.v (s : SD) : V := V.agg [(V.int .i64 s.idx), (V.inl Zg s.rows), (V.inl Zf s.tombs), (V.int .i64 s.lost), (V.inl Zd s.sess), (V.inl Ze s.lasts)]
def SD.b (s : SD) (a b c d : Nat) : V := V.agg [(V.int .i64 s.idx), (V.sl a Zg 0 none), (V.sl b Zf 0 none), (V.int .i64 s.lost), (V.sl c Zd 0 none), (V.sl d Ze 0 none)]
def ZbA (k v : List V) (t h : Int) : V := V.agg [(V.inl Zb k), (V.inl Zb v), (V.int .i64 t), (V.int .i64 h)]
def ZdB (k : List V) (i : Int) : V := V.agg [(V.inl Zb k), (V.int .i64 i)]
def sessV (i : Int) (d : Bool) : V := V.agg [(V.int .i64 i), (V.bool d)]
def lastV (c r co i : Int) : V := V.agg [(V.int .i64 c), (V.int .i64 r), (V.int .i64 co), (V.int .i64 i)]
def ZaP (l : List V) (i : Nat) : List V := l.take i ++ l.drop (i + 1)
def ZaI (l : List V) (i : Nat) (x : V) : List V := l.take i ++ [x] ++ l.drop i
theorem ZdY {l : List V} {i : Nat} (h : i < l.length) : (ZaP l i).length = l.length - 1 := by unfold ZaP; rw [List.length_append, List.length_take, List.length_drop]; omega
theorem Zd5 {l : List V} {i : Nat} {x : V} (h : i ≤ l.length) : (ZaI l i x).length = l.length + 1 := by unfold ZaI; rw [List.length_append, List.length_append, List.length_take, List.length_drop, List.length_singleton]; omega
theorem ZbD {l : List V} {j : Nat} (h : j < l.length) (x : V) : rd (l.set j x) j = x := by simp [rd, List.getD, h]
theorem ZdC {l : List V} {i j : Nat} (h : j ≠ i) (x : V) : rd (l.set i x) j = rd l j := by simp [rd, List.getD, List.getElem?_set, Ne.symm h]
theorem ZdI {n b : Nat} (h : n * b ≤ 140737488355328) (h1 : n ≤ 9223372036854775807) : (Zah n b && true) = true := by rw [ZgN h h1]; rfl
def Zd6 (l : List V) (k : List V) : Nat := match Zt (fun i => !nlt (gl (rd l i) 0) k) 0 l.length with | some j => j | none => l.length
def SD.bury (s : SD) (i : Nat) : SD :=
  bif decide (10 < s.tombs.length + 1) then { s with rows := ZaP s.rows i, tombs := (s.tombs ++ [ZdB (gl (rd s.rows i) 0) s.idx]).drop 1, lost := gi (rd (s.tombs ++ [ZdB (gl (rd s.rows i) 0) s.idx]) 0) 1 }
  else { s with rows := ZaP s.rows i, tombs := s.tombs ++ [ZdB (gl (rd s.rows i) 0) s.idx] }
def SD.put (s : SD) (key val : List V) : Bool × SD :=
  match Zt (fun i => neq (gl (rd s.rows i) 0) key) 0 s.rows.length with
  | some j => (true, { s with rows := s.rows.set j (ZbA (gl (rd s.rows j) 0) val s.idx (gi (rd s.rows j) 3)) })
  | none => bif decide (20 ≤ s.rows.length) then (false, s) else
    (true, { s with rows := ZaI s.rows (Zd6 s.rows key) (ZbA key val s.idx 0), tombs := match Zt (fun i => neq (gl (rd s.tombs i) 0) key) 0 s.tombs.length with | some j => ZaP s.tombs j | none => s.tombs })
theorem Zna {l k : List V} {j : Nat} (h : Zt (fun i => neq (gl (rd l i) 0) k) 0 l.length = some j) : fK l k = (j : Int) := by unfold fK; rw [h]
theorem fK_none {l k : List V} (h : Zt (fun i => neq (gl (rd l i) 0) k) 0 l.length = none) : fK l k = -1 := by unfold fK; rw [h]
theorem ZjU {l k : List V} {j : Nat} (h : Zt (fun i => neq (gl (rd l i) 0) k) 0 l.length = some j) : j < l.length := by
  have := ZaA h; omega
theorem ZnJ (l k : List V) : Zd6 l k ≤ l.length := by
  unfold Zd6
  cases h : Zt (fun i => !nlt (gl (rd l i) 0) k) 0 l.length with
  | none => exact Nat.le_refl _
  | some j => have := ZaA h; show j ≤ _; omega
end Go.Eng.R
open Go Go.Eng
namespace Go.Eng.R
set_option maxRecDepth 100000
def SD.shutL (id : Int) (del : Bool) : Nat → Nat → SD → SD
  | 0, _, s => s
  | n + 1, k, s => bif decide (k < s.rows.length) then
      bif !decide (gi (rd s.rows k) 3 = id) then SD.shutL id del n (k + 1) s
      else bif del then SD.shutL id del n k (s.bury k)
      else SD.shutL id del n (k + 1) { s with rows := s.rows.set k (ZbA (gl (rd s.rows k) 0) (gl (rd s.rows k) 1) s.idx 0) }
    else s
def SD.shut (s : SD) (i : Nat) : SD := SD.shutL (gi (rd s.sess i) 0) (gb (rd s.sess i) 1) s.rows.length 0 { s with sess := ZaP s.sess i }
def SD.look (s : SD) (key : List V) : Option Nat := bif decide (0 < key.length) then Zt (fun i => neq (gl (rd s.rows i) 0) key) 0 s.rows.length else none
def SD.sessAt (s : SD) (id : Int) : Option Nat := Zt (fun i => decide (gi (rd s.sess i) 0 = id)) 0 s.sess.length
def Zfy (b : Bool) : Int := bif b then 0 else 4
def SD.hold (s : SD) (key : List V) (n : Int) : SD := match Zt (fun i => neq (gl (rd s.rows i) 0) key) 0 s.rows.length with
  | some j => { s with rows := s.rows.set j (ZbA (gl (rd s.rows j) 0) (gl (rd s.rows j) 1) (gi (rd s.rows j) 2) n) }
  | none => s
def SD.puts (s : SD) (key val : List V) : Int × SD := (Zfy (s.put key val).1, (s.put key val).2)
def SD.do' (s : SD) (k : Int) (key val : List V) (n : Int) : Int × SD :=
  bif decide (k = 1) then s.puts key val
  else bif decide (k = 2) then
    bif decide ((match s.look key with | some j => gi (rd s.rows j) 2 | none => 0) = n) then s.puts key val else (3, s)
  else bif decide (k = 3) then (match s.look key with | some j => (0, s.bury j) | none => (1, s))
  else bif decide (k = 4) then bif decide (8 ≤ s.sess.length) then (4, s) else (0, { s with sess := s.sess ++ [sessV s.idx (decide (n = 1))] })
  else bif decide (k = 5) then (match s.sessAt n with | some i => (0, s.shut i) | none => (1, s))
  else bif decide (k = 6) then (match s.sessAt n with
    | none => (1, s)
    | some _ => bif (match s.look key with | some j => !decide (gi (rd s.rows j) 3 = 0) && !decide (gi (rd s.rows j) 3 = n) | none => false) then (2, s)
      else bif (s.put key val).1 then (0, (s.put key val).2.hold key n) else (4, (s.put key val).2))
  else bif decide (k = 7) then (match s.look key with
    | some j => bif decide (gi (rd s.rows j) 3 = n) then (0, { s with rows := s.rows.set j (ZbA (gl (rd s.rows j) 0) (gl (rd s.rows j) 1) s.idx 0) }) else (1, s)
    | none => (1, s))
  else (0, s)
theorem ZgV (a : List V) : neq a a = true := by rw [Zb1]; exact decide_eq_true rfl
theorem ZjV {l : List V} {i : Nat} {x : V} (h : i ≤ l.length) : rd (ZaI l i x) i = x := by
  unfold ZaI
  have : (l.take i).length = i := by rw [List.length_take]; omega
  simp [rd, List.getD, List.getElem?_append, this]
theorem Znb {l : List V} {n : Int} {j : Nat} (h : Zt (fun i => decide (gi (rd l i) 0 = n)) 0 l.length = some j) : fI l n = (j : Int) := by unfold fI; rw [h]
theorem Znc {l : List V} {n : Int} (h : Zt (fun i => decide (gi (rd l i) 0 = n)) 0 l.length = none) : fI l n = -1 := by unfold fI; rw [h]
end Go.Eng.R
open Go Go.Eng
namespace Go.Eng.R
set_option maxRecDepth 100000
theorem dF {p : Prop} [Decidable p] (h : ¬ p) : decide p = false := decide_eq_false h
theorem dT {p : Prop} [Decidable p] (h : p) : decide p = true := decide_eq_true h
end Go.Eng.R
open Go Go.Eng
namespace Go.Eng.R
set_option maxRecDepth 100000
theorem Zop (s : SD) (key val : List V) : (s.put key val).2.lasts = s.lasts := by
  unfold SD.put
  cases Zt (fun i => neq (gl (rd s.rows i) 0) key) 0 s.rows.length with
  | some j => rfl
  | none => cases decide (20 ≤ s.rows.length) <;> rfl
theorem ZjW (s : SD) (i : Nat) : (s.bury i).lasts = s.lasts := by
  unfold SD.bury; cases decide (10 < s.tombs.length + 1) <;> rfl
theorem ZeI (id : Int) (del : Bool) : ∀ (n k : Nat) (s : SD), (SD.shutL id del n k s).lasts = s.lasts
  | 0, _, _ => rfl
  | n + 1, k, s => by
    rw [SD.shutL]
    cases decide (k < s.rows.length) with
    | false => rfl
    | true =>
      cases decide (gi (rd s.rows k) 3 = id) with
      | false => exact ZeI id del n (k + 1) s
      | true =>
        cases del with
        | true => exact (ZeI id true n k (s.bury k)).trans (ZjW s k)
        | false => exact ZeI id false n (k + 1) _
theorem ZnK (s : SD) (key : List V) (n : Int) : (s.hold key n).lasts = s.lasts := by
  unfold SD.hold; cases Zt (fun i => neq (gl (rd s.rows i) 0) key) 0 s.rows.length <;> rfl
theorem do_lasts (s : SD) (k : Int) (key val : List V) (n : Int) : (s.do' k key val n).2.lasts = s.lasts := by
  have hp := Zop s key val
  unfold SD.do'
  cases decide (k = 1) with
  | true => exact hp
  | false =>
  cases decide (k = 2) with
  | true =>
    show (bif _ then s.puts key val else (3, s)).2.lasts = _
    cases decide ((match s.look key with | some j => gi (rd s.rows j) 2 | none => 0) = n) with
    | true => exact hp
    | false => rfl
  | false =>
  cases decide (k = 3) with
  | true =>
    show (match s.look key with | some j => ((0 : Int), s.bury j) | none => (1, s)).2.lasts = _
    cases s.look key with
    | some j => exact ZjW s j
    | none => rfl
  | false =>
  cases decide (k = 4) with
  | true =>
    show (bif decide (8 ≤ s.sess.length) then ((4 : Int), s) else (0, { s with sess := s.sess ++ [sessV s.idx (decide (n = 1))] })).2.lasts = _
    cases decide (8 ≤ s.sess.length) <;> rfl
  | false =>
  cases decide (k = 5) with
  | true =>
    show (match s.sessAt n with | some i => ((0 : Int), s.shut i) | none => (1, s)).2.lasts = _
    cases s.sessAt n with
    | some i => exact ZeI _ _ _ _ _
    | none => rfl
  | false =>
  cases decide (k = 6) with
  | true =>
    show (match s.sessAt n with
      | none => ((1 : Int), s)
      | some _ => bif (match s.look key with | some j => !decide (gi (rd s.rows j) 3 = 0) && !decide (gi (rd s.rows j) 3 = n) | none => false) then (2, s)
        else bif (s.put key val).1 then (0, (s.put key val).2.hold key n) else (4, (s.put key val).2)).2.lasts = _
    cases s.sessAt n with
    | none => rfl
    | some i =>
      cases (match s.look key with | some j => !decide (gi (rd s.rows j) 3 = 0) && !decide (gi (rd s.rows j) 3 = n) | none => false) with
      | true => rfl
      | false =>
        show (bif (s.put key val).1 then ((0 : Int), (s.put key val).2.hold key n) else (4, (s.put key val).2)).2.lasts = _
        cases (s.put key val).1 with
        | true => exact (ZnK _ _ _).trans hp
        | false => exact hp
  | false =>
  cases decide (k = 7) with
  | true =>
    show (match s.look key with
      | some j => bif decide (gi (rd s.rows j) 3 = n) then ((0 : Int), { s with rows := s.rows.set j (ZbA (gl (rd s.rows j) 0) (gl (rd s.rows j) 1) s.idx 0) }) else (1, s)
      | none => (1, s)).2.lasts = _
    cases s.look key with
    | none => rfl
    | some j =>
      dsimp only
      by_cases hn : gi (rd s.rows j) 3 = n
      · rw [dT hn]; rfl
      · rw [dF hn]; rfl
  | false => rfl
def Zbt (l : List V) (c : Int) : Nat := match Zt (fun i => !decide (gi (rd l i) 0 < c)) 0 l.length with | some j => j | none => l.length
def SD.up (s : SD) : SD := { s with idx := s.idx + 1 }
def SD.apply (s : SD) (c : V) : (Int × Int) × SD :=
  bif decide (gi c 0 < 0) then ((0, s.idx + 1), s.up)
  else bif decide (Zbt s.lasts (gi c 0) < s.lasts.length) && decide (gi (rd s.lasts (Zbt s.lasts (gi c 0))) 0 = gi c 0) then
    bif decide (gi (rd s.lasts (Zbt s.lasts (gi c 0))) 1 = gi c 1) then ((gi (rd s.lasts (Zbt s.lasts (gi c 0))) 2, gi (rd s.lasts (Zbt s.lasts (gi c 0))) 3), s.up)
    else bif decide (gi c 1 < gi (rd s.lasts (Zbt s.lasts (gi c 0))) 1) then ((5, s.idx + 1), s.up)
    else (((s.up.do' (gi c 2) (gl c 3) (gl c 4) (gi c 5)).1, s.idx + 1), { (s.up.do' (gi c 2) (gl c 3) (gl c 4) (gi c 5)).2 with lasts := s.lasts.set (Zbt s.lasts (gi c 0)) (lastV (gi (rd s.lasts (Zbt s.lasts (gi c 0))) 0) (gi c 1) (s.up.do' (gi c 2) (gl c 3) (gl c 4) (gi c 5)).1 (s.idx + 1)) })
  else (((s.up.do' (gi c 2) (gl c 3) (gl c 4) (gi c 5)).1, s.idx + 1), { (s.up.do' (gi c 2) (gl c 3) (gl c 4) (gi c 5)).2 with lasts := ZaI s.lasts (Zbt s.lasts (gi c 0)) (lastV (gi c 0) (gi c 1) (s.up.do' (gi c 2) (gl c 3) (gl c 4) (gi c 5)).1 (s.idx + 1)) })
end Go.Eng.R
open Go Go.Eng
namespace Go.Eng.R
set_option maxRecDepth 100000
def K5 : List (List V) := [[(V.int .u8 97)], [(V.int .u8 98)], [(V.int .u8 99)], [(V.int .u8 97), (V.int .u8 47), (V.int .u8 98)], [(V.int .u8 100)]]
theorem K5_bs {k : List V} (h : k ∈ K5) : BS k := by
  simp only [K5, List.mem_cons, List.not_mem_nil, or_false] at h
  rcases h with rfl | rfl | rfl | rfl | rfl <;> exact ZgU rfl
theorem Zoq {c : V} (h : Z8 c) : Ok2 (fun x c => Z8 c ∧ x ∈ K5) (ZaY (Za c)) := by
  obtain ⟨x, c', e, h', x0, x1⟩ := ZgT h (n := 5) (by decide)
  unfold ZaY
  rw [show Za (Za c) = Za c from rfl, e]
  simp only [Option.bind_some]
  rw [show Zm x 5 = true from by simp [Zm]; omega]
  obtain ⟨j, rfl⟩ := Int.eq_ofNat_of_zero_le x0
  have hj : j = 0 ∨ j = 1 ∨ j = 2 ∨ j = 3 ∨ j = 4 := by omega
  rcases hj with rfl | rfl | rfl | rfl | rfl
  · exact ⟨_, _, rfl, h', List.mem_cons_self ..⟩
  · exact ⟨_, _, rfl, h', List.mem_cons_of_mem _ (List.mem_cons_self ..)⟩
  · exact ⟨_, _, rfl, h', List.mem_cons_of_mem _ (List.mem_cons_of_mem _ (List.mem_cons_self ..))⟩
  · exact ⟨_, _, rfl, h', List.mem_cons_of_mem _ (List.mem_cons_of_mem _ (List.mem_cons_of_mem _ (List.mem_cons_self ..)))⟩
  · exact ⟨_, _, rfl, h', List.mem_cons_of_mem _ (List.mem_cons_of_mem _ (List.mem_cons_of_mem _ (List.mem_cons_of_mem _ (List.mem_cons_self ..))))⟩
def opN (k : Int) : Prop := k ≠ 1 ∧ k ≠ 2 ∧ k ≠ 6
def D_Op (x : V) : Prop := (gl x 1 ∈ K5 ∨ (gl x 1 = [] ∧ opN (gi x 0))) ∧ BS (gl x 2) ∧ I64 (gi x 0) ∧ I64 (gi x 3)
set_option maxHeartbeats 2000000 in
theorem op_K {c : V} (h : Z8 c) (i : Int) : Ok2 (fun x c => Z8 c ∧ D_Op x) (ZfL (Za c) i) := by
  unfold ZfL
  refine .of ?_
  obtain ⟨j, c', e, h1, hj⟩ := Zm8 h (l := [(V.int .i64 1), (V.int .i64 1), (V.int .i64 1), (V.int .i64 2), (V.int .i64 3), (V.int .i64 3), (V.int .i64 4), (V.int .i64 5), (V.int .i64 6), (V.int .i64 6), (V.int .i64 7), (V.int .i64 0)]) (by decide)
  have hv : gi (rd [(V.int .i64 1), (V.int .i64 1), (V.int .i64 1), (V.int .i64 2), (V.int .i64 3), (V.int .i64 3), (V.int .i64 4), (V.int .i64 5), (V.int .i64 6), (V.int .i64 6), (V.int .i64 7), (V.int .i64 0)] j) 0 ∈ [(0 : Int), 1, 2, 3, 4, 5, 6, 7] := by
    have hj' : j ∈ List.range 12 := List.mem_range.2 hj
    revert j
    intro j _ _ hj
    have key : ∀ j ∈ List.range 12, gi (rd [(V.int .i64 1), (V.int .i64 1), (V.int .i64 1), (V.int .i64 2), (V.int .i64 3), (V.int .i64 3), (V.int .i64 4), (V.int .i64 5), (V.int .i64 6), (V.int .i64 6), (V.int .i64 7), (V.int .i64 0)] j) 0 ∈ [(0 : Int), 1, 2, 3, 4, 5, 6, 7] := by decide
    exact key j hj
  rw [nn_cur, e]
  refine Ok.bind2 (Q := fun a b => a = gi (rd [(V.int .i64 1), (V.int .i64 1), (V.int .i64 1), (V.int .i64 2), (V.int .i64 3), (V.int .i64 3), (V.int .i64 4), (V.int .i64 5), (V.int .i64 6), (V.int .i64 6), (V.int .i64 7), (V.int .i64 0)] j) 0 ∧ b = c') ⟨_, _, rfl, rfl, rfl⟩ ?_
  rintro a b ⟨ha, rfl⟩
  rw [← ha] at hv
  clear ha e
  simp only [List.mem_cons, List.not_mem_nil, or_false] at hv
  rcases hv with rfl | rfl | rfl | rfl | rfl | rfl | rfl | rfl
  all_goals ((repeat' (((with_reducible refine (id ?_ : Ok _ _)); first | (with_reducible refine Ok.chk (by (first | (refine idx_of ?_ ?_ <;> (try simp only [List.length_set, List.length_append, List.length_cons, List.length_nil, List.length_replicate, Nat.zero_add]) <;> omega) | (refine room_of ?_ ?_ <;> (try simp only [List.length_set, List.length_append, List.length_cons, List.length_nil, List.length_replicate, Nat.zero_add]) <;> omega) | assumption | (simp; done) | (simp; omega))) ?_) | ((with_reducible refine Ok.iteT ?_ ?_); (next => first | exact decide_eq_true (by with_reducible rfl) | (refine congrArg not (decide_eq_false ?_); intro h; revert h; dsimp only; decide))) | ((with_reducible refine Ok.iteF ?_ ?_); (next => first | (refine decide_eq_false ?_; intro h; revert h; dsimp only; decide) | exact congrArg not (decide_eq_true (by with_reducible rfl)))) | (with_reducible refine Ok.ite (fun _ => ?_) (fun _ => ?_) <;> (rename_i h; try simp only [decide_eq_true_eq, decide_eq_false_iff_not, Bool.not_eq_true', Bool.not_eq_false', Int.not_lt, Int.not_le] at h)) | (first | (((with_reducible refine Ok.bind2 (Zoq (by assumption)) ?_); rintro _ _ ⟨_, _⟩)) | (((with_reducible refine Ok.bind2 (Zoo (by assumption)) ?_); rintro _ _ ⟨_, _⟩)) | (((with_reducible refine Ok.bind2 (Zon (by assumption)) ?_); rintro _ _ ⟨_, _⟩)) | (((with_reducible refine Ok.bind2 (ZhJ (by assumption) ?_ ?_) ?_); (next => exact Nat.succ_pos _); (next => repeat' (first | trivial | ((repeat' (first | dsimp only [ZjG, ZjI, ZjH, ZjJ, gi_v0] | with_reducible assumption | with_reducible exact wrI _ | (unfold I64; constructor <;> omega) | omega | (simp only [List.length_set, List.length_append, List.length_cons, List.length_nil, List.length_take, List.length_drop]; omega) | with_reducible refine LW.set' ?_ _ ?_ | with_reducible refine LW.snoc ?_ ?_ ?_ | with_reducible refine LW.takeL ?_ _ | with_reducible refine LW.dropL ?_ _ | with_reducible refine W_int.mk ?_ | assumption)); done) | refine And.intro ?_ ?_)); rintro _ _ ⟨_, _⟩)) | (((with_reducible refine Ok.bind2 (Zfc (by assumption) _) ?_); rintro _ _ ⟨_, _, _, _⟩))) | with_reducible refine Ok.ret ?_))))
  all_goals (refine ⟨by assumption, ?_, ?_, ?_, ?_⟩ <;> (try dsimp only [ZjG, ZjI, ZjH, ZjJ]) <;> first | exact .inr ⟨rfl, by decide, by decide, by decide⟩ | (refine .inl ?_; assumption) | with_reducible assumption | with_reducible exact wrI _ | with_reducible exact BS.nil | ((unfold I64; constructor <;> omega)) | assumption)
theorem ZE {l : List V} {i : Nat} (h : i < l.length) : rd l i ∈ l := by simp [rd, List.getD, h]
theorem Zgn {l : List V} {i : Nat} (h : i < l.length) : l.Perm (rd l i :: ZaP l i) := by
  have e : l = l.take i ++ rd l i :: l.drop (i + 1) := by
    have h1 : rd l i = l[i] := by simp [rd, List.getD, h]
    rw [h1, List.getElem_cons_drop, List.take_append_drop]
  unfold ZaP
  exact (List.Perm.of_eq e).trans List.perm_middle
theorem ZiM (l : List V) (i : Nat) (x : V) : (ZaI l i x).Perm (x :: l) := by
  unfold ZaI
  rw [List.append_assoc]
  refine List.perm_middle.trans ?_
  show (x :: (l.take i ++ l.drop i)).Perm (x :: l)
  rw [List.take_append_drop]
theorem ZbI {l : List V} {i : Nat} {x : V} (h : x ∈ ZaP l i) : x ∈ l := by
  unfold ZaP at h
  rcases List.mem_append.1 h with h | h
  · exact List.mem_of_mem_take h
  · exact List.mem_of_mem_drop h
theorem ZfP {l : List V} {i : Nat} {x y : V} (h : y ∈ ZaI l i x) : y = x ∨ y ∈ l := by
  have := (ZiM l i x).mem_iff.1 h
  simpa using this
def keyOf' (x : V) : List V := gl x 0
structure DI (s : SD) (n : Nat) : Prop where
  idx0 : 0 ≤ s.idx
  idx1 : s.idx ≤ (n : Int)
  rows : ∀ r ∈ s.rows, gl r 0 ∈ K5 ∧ BS (gl r 1) ∧ I64 (gi r 2) ∧ I64 (gi r 3)
  tombs : ∀ r ∈ s.tombs, gl r 0 ∈ K5 ∧ I64 (gi r 1)
  lost : I64 s.lost
  sessL : s.sess.length ≤ 8
  sess : ∀ x ∈ s.sess, I64 (gi x 0)
  lastsL : s.lasts.length ≤ n
  lasts : ∀ x ∈ s.lasts, I64 (gi x 0) ∧ I64 (gi x 1) ∧ I64 (gi x 2) ∧ I64 (gi x 3)
  nd : (s.rows.map keyOf' ++ s.tombs.map keyOf').Nodup
end Go.Eng.R
open Go Go.Eng
namespace Go.Eng.R
set_option maxRecDepth 100000
theorem Znd {s : SD} {key : List V} {j : Nat} (h : s.look key = some j) : j < s.rows.length := by
  unfold SD.look at h
  cases hk : decide (0 < key.length) with
  | false => rw [hk] at h; cases h
  | true => rw [hk] at h; exact ZjU h
end Go.Eng.R
open Go Go.Eng
namespace Go.Eng.R
set_option maxRecDepth 100000
def nb (b1 : V) : V := V.agg [(V.int .i64 (gi b1 0)), (V.sl 3 Zg 0 none), (V.sl 4 Zf 0 none), (V.int .i64 (gi b1 3)), (V.sl 5 Zd 0 none), (V.sl 6 Ze 0 none)]
structure BI (s : SD) : Prop where
  idx : I64 s.idx
  rowsL : s.rows.length ≤ 30
  rows : ∀ r ∈ s.rows, BS (gl r 0) ∧ BS (gl r 1) ∧ I64 (gi r 2) ∧ I64 (gi r 3)
  tombsL : s.tombs.length ≤ 30
  tombs : ∀ r ∈ s.tombs, BS (gl r 0) ∧ I64 (gi r 1)
  lost : I64 s.lost
  sessL : s.sess.length ≤ 30
  sess : ∀ x ∈ s.sess, I64 (gi x 0)
  lastsL : s.lasts.length ≤ 30
  lasts : ∀ x ∈ s.lasts, I64 (gi x 0) ∧ I64 (gi x 1) ∧ I64 (gi x 2) ∧ I64 (gi x 3)
end Go.Eng.R
open Go Go.Eng
namespace Go.Eng.R
set_option maxRecDepth 100000
end Go.Eng.R
open Go Go.Eng
namespace Go.Eng.R
set_option maxRecDepth 100000
def AscI (l : List V) : Prop := ∀ i, i + 1 < l.length → gi (rd l i) 0 < gi (rd l (i + 1)) 0
def lbI (l : List V) (id : Int) : Nat := (l.takeWhile (fun x => decide (gi x 0 < id))).length
def Zfz (l : List V) (id : Int) : Bool := decide (lbI l id < l.length) && decide (gi (rd l (lbI l id)) 0 = id)
theorem ZjX (l : List V) (id : Int) : lbI l id ≤ l.length := (List.takeWhile_prefix _).sublist.length_le
theorem AscI.tail {x : V} {l : List V} (h : AscI (x :: l)) : AscI l := fun i hi => h (i + 1) (by simpa using hi)
theorem AscI.lt {l : List V} (h : AscI l) : ∀ (j i : Nat), i < j → j < l.length → gi (rd l i) 0 < gi (rd l j) 0
  | 0, i, hi, _ => by omega
  | j + 1, i, hi, hj => by
    have h1 := h j hj
    rcases Nat.lt_or_ge i j with c | c
    · have := AscI.lt h j i c (by omega); omega
    · obtain rfl : i = j := by omega
      exact h1
theorem Zex : ∀ {l : List V}, AscI l → ∀ (id : Int) (i : Nat), i < l.length → decide (gi (rd l i) 0 < id) = decide (i < lbI l id)
  | [], _, _, i, hi => by simp at hi
  | x :: l, h, id, i, hi => by
    unfold lbI
    by_cases hx : gi x 0 < id
    · rw [List.takeWhile_cons, if_pos (by simpa using hx), List.length_cons]
      cases i with
      | zero => rw [decide_eq_true (p := gi (rd (x :: l) 0) 0 < id) hx, decide_eq_true (by omega)]
      | succ i =>
        have := Zex h.tail id i (by simpa using hi)
        unfold lbI at this
        rw [show rd (x :: l) (i + 1) = rd l i from rfl, this]
        congr 1
        exact propext ⟨fun c => by omega, fun c => by omega⟩
    · rw [List.takeWhile_cons, if_neg (by simpa using hx)]
      have h0 : ¬ gi (rd (x :: l) i) 0 < id := by
        cases i with
        | zero => exact hx
        | succ i => have := h.lt (i + 1) 0 (by omega) hi; intro c; exact hx (Int.lt_trans this c)
      rw [decide_eq_false h0, decide_eq_false (by simp)]
theorem last_neg {l : V} {t : Int} (h : 0 ≤ gi l 0 ∧ gi l 0 ≤ 3) (ht : 0 ≤ t ∧ t ≤ 3) : decide (ZbJ (ZeG l) t < 0) = decide (gi l 0 < t) := by
  show decide (IntKind.i64.wrap (gi l 0 - t) < 0) = _
  rw [ZaK (by omega) (by omega)]
  by_cases h1 : gi l 0 < t
  · rw [decide_eq_true h1, decide_eq_true (by omega)]
  · rw [decide_eq_false h1, decide_eq_false (by omega)]
theorem Zor {l : V} {t : Int} (h : 0 ≤ gi l 0 ∧ gi l 0 ≤ 3) (ht : 0 ≤ t ∧ t ≤ 3) : decide (ZbJ (ZeG l) t = 0) = decide (gi l 0 = t) := by
  show decide (IntKind.i64.wrap (gi l 0 - t) = 0) = _
  rw [ZaK (by omega) (by omega)]
  by_cases h1 : gi l 0 = t
  · rw [decide_eq_true h1, decide_eq_true (by omega)]
  · rw [decide_eq_false h1, decide_eq_false (by omega)]
theorem bsI_eq {S : List V} (hS : S.length ≤ 4194304) (ha : AscI S) (hb : ∀ i, i < S.length → 0 ≤ gi (rd S i) 0 ∧ gi (rd S i) 0 ≤ 3) {t : Int} (ht : 0 ≤ t ∧ t ≤ 3) : ZaE S t = some (((lbI S t : Nat) : Int), Zfz S t) := by
  unfold ZaE
  have hle := ZjX S t
  rw [Zbq, show (0 : Int) = ((0 : Nat) : Int) from rfl, Zh1 (F := fun m i j => ZG m S t ((S.length : Nat) : Int) i j) (x := S) (p := fun r => decide (gi r 0 < t)) (n0 := lbI S t) (out := fun i => some (S, t, ((S.length : Nat) : Int), i)) (by omega) (Zex ha t) ?_ ?_ (S.length + 1) 0 S.length (by omega) hle (by omega) (by omega)]
  · simp only [Option.bind_some]
    unfold Zfz
    by_cases hc : lbI S t < S.length
    · rw [ZaD hc, cond_true, Zp hc, cond_true, Int.toNat_natCast, decide_eq_true hc, Bool.true_and]
      congr 2
      exact Zor (hb _ hc) ht
    · rw [decide_eq_false (p := ((lbI S t : Nat) : Int) < ((S.length : Nat) : Int)) (by omega), decide_eq_false hc]
      rfl
  · intro m i j hij hj
    have hw := wr_mid (i := i) (j := j) (by omega)
    simp only [ZG, hw]
    rw [ZaD hij, cond_true, Zp (show (i + j) / 2 < S.length by omega), cond_true, Int.toNat_natCast, Zax (n := S.length) (show (i + j) / 2 < S.length by omega) (by omega)]
    rw [last_neg (hb _ (show (i + j) / 2 < S.length by omega)) ht]
  · intro m i; simp only [ZG, Zas, cond_false]
theorem sv_head {s : V} (h : Zbh s = true) : 0 ≤ gi s 0 ∧ gi s 0 ≤ 1000000 ∧ 0 ≤ gi s 3 ∧ gi s 3 ≤ gi s 0 ∧ (gl s 1).length ≤ 20 ∧ (gl s 2).length ≤ 10 ∧ (gl s 4).length ≤ 8 ∧ (gl s 5).length ≤ 4 := by
  unfold Zbh at h
  rw [Bool.and_eq_true] at h
  exact of_decide_eq_true h.1
theorem Zne {s : V} (h : Zbh s = true) : (List.range (gl s 1).length).all (Zfx s) = true := by
  unfold Zbh at h
  simp only [Bool.and_eq_true] at h
  exact h.2.1
theorem sv_row {s : V} (h : Zbh s = true) {i : Nat} (hi : i < (gl s 1).length) : Zfx s i = true := by
  have := Zne h
  rw [List.all_eq_true] at this
  exact this i (List.mem_range.2 hi)
theorem sv_tomb {s : V} (h : Zbh s = true) {i : Nat} (hi : i < (gl s 2).length) : Zdh s i = true := by
  unfold Zbh at h
  simp only [Bool.and_eq_true] at h
  have := h.2.2.1
  rw [List.all_eq_true] at this
  exact this i (List.mem_range.2 hi)
theorem Znf {s : V} (h : Zbh s = true) {i : Nat} (hi : i < (gl s 4).length) : ZeH s i = true := by
  unfold Zbh at h
  simp only [Bool.and_eq_true] at h
  have := h.2.2.2.1
  rw [List.all_eq_true] at this
  exact this i (List.mem_range.2 hi)
theorem Zng {s : V} (h : Zbh s = true) {i : Nat} (hi : i < (gl s 5).length) : Ze7 s i = true := by
  unfold Zbh at h
  simp only [Bool.and_eq_true] at h
  have := h.2.2.2.2
  rw [List.all_eq_true] at this
  exact this i (List.mem_range.2 hi)
theorem ZiN {k : List V} (h : ZbH k = true) : k.length ≤ 20 := by
  unfold ZbH at h
  simp only [Bool.and_eq_true, decide_eq_true_eq] at h
  exact h.2.1
theorem sessB_id {s : V} {i : Nat} (h : ZeH s i = true) : 1 ≤ gi (rd (gl s 4) i) 0 ∧ gi (rd (gl s 4) i) 0 ≤ gi s 0 := by
  unfold ZeH at h
  simp only [Bool.and_eq_true, Bool.not_eq_true', decide_eq_false_iff_not] at h
  omega
theorem ZmI {s : V} (h : Zbh s = true) : AscI (gl s 4) := by
  intro i hi
  have := Znf h hi
  unfold ZeH at this
  simp only [Bool.and_eq_true] at this
  simpa using this.2.2
theorem ZmJ {s : V} (h : Zbh s = true) : AscI (gl s 5) := by
  intro i hi
  have := Zng h hi
  unfold Ze7 at this
  simp only [Bool.and_eq_true] at this
  simpa using this.2
theorem ZnL {s : V} (h : Zbh s = true) {i : Nat} (hi : i < (gl s 5).length) : 0 ≤ gi (rd (gl s 5) i) 0 ∧ gi (rd (gl s 5) i) 0 ≤ 3 ∧ 1 ≤ gi (rd (gl s 5) i) 1 ∧ gi (rd (gl s 5) i) 1 ≤ 1000000 ∧ 0 ≤ gi (rd (gl s 5) i) 2 ∧ gi (rd (gl s 5) i) 2 ≤ 5 ∧ 1 ≤ gi (rd (gl s 5) i) 3 ∧ gi (rd (gl s 5) i) 3 ≤ gi s 0 := by
  have := Zng h hi
  unfold Ze7 at this
  rw [Bool.and_eq_true] at this
  exact of_decide_eq_true this.1
theorem Zc4 {x : List V} (h : x.length ≤ 1000) : ZF x = some x := by
  unfold ZF
  rw [ZdI (by omega) (by omega)]; rfl
def RowE (a b : V) : Prop := gl a 0 = gl b 0 ∧ gl a 1 = gl b 1 ∧ gi a 2 = gi b 2 ∧ gi a 3 = gi b 3
def Zh5 (a b : V) : Prop := gl a 0 = gl b 0 ∧ gi a 1 = gi b 1
def SameL (E : V → V → Prop) (l l' : List V) : Prop := l.length = l'.length ∧ ∀ j, j < l'.length → E (rd l j) (rd l' j)
theorem SameL.set {E : V → V → Prop} {l l' : List V} (h : SameL E l l') {i : Nat} {z : V} (hz : E z (rd l' i)) : SameL E (l.set i z) l' := by
  refine ⟨by rw [List.length_set]; exact h.1, fun j hj => ?_⟩
  by_cases hij : j = i
  · subst hij; rw [ZbD (by rw [h.1]; exact hj)]; exact hz
  · rw [ZdC hij]; exact h.2 j hj
def nrow (r : V) : V := ZbA (gl r 0) (gl r 1) (gi r 2) (gi r 3)
def Ze8 (t : V) : V := ZdB (gl t 0) (gi t 1)
theorem own_O {s : V} (hr : (gl s 1).length ≤ 1000) (ht : (gl s 2).length ≤ 1000) (h4 : (gl s 4).length ≤ 1000) (h5 : (gl s 5).length ≤ 1000) (hk : ∀ j, j < (gl s 1).length → (gl (rd (gl s 1) j) 0).length ≤ 1000 ∧ (gl (rd (gl s 1) j) 1).length ≤ 1000) (hk2 : ∀ j, j < (gl s 2).length → (gl (rd (gl s 2) j) 0).length ≤ 1000) :
    ∃ R T, ZbV (Zc s) = some (V.agg [(V.int .i64 (gi s 0)), (V.inl Zg R), (V.inl Zf T), (V.int .i64 (gi s 3)), (V.inl Zd (gl s 4)), (V.inl Ze (gl s 5))]) ∧ SameL RowE R (gl s 1) ∧ SameL Zh5 T (gl s 2) ∧ (∀ r ∈ R, nrow r = r) ∧ (∀ t ∈ T, Ze8 t = t) := by
  unfold ZbV
  simp only [show gl (Zc s) 1 = gl s 1 from rfl, show gl (Zc s) 2 = gl s 2 from rfl, show gl (Zc s) 4 = gl s 4 from rfl, show gl (Zc s) 5 = gl s 5 from rfl, show gi (Zc s) 0 = gi s 0 from rfl, show gi (Zc s) 3 = gi s 3 from rfl]
  have c1 : Zb5 (gl s 1) = some (gl s 1) := by unfold Zb5; rw [ZdI (by omega) (by omega)]; rfl
  have c2 : ZbK (gl s 2) = some (gl s 2) := by unfold ZbK; rw [ZdI (by omega) (by omega)]; rfl
  have c3 : Zbg (gl s 4) = some (gl s 4) := by unfold Zbg; rw [ZdI (by omega) (by omega)]; rfl
  have c4 : ZbL (gl s 5) = some (gl s 5) := by unfold ZbL; rw [ZdI (by omega) (by omega)]; rfl
  rw [c1, c2, c3, c4]
  simp only [Option.bind_some, Zbq]
  have L3 : ∃ R, ZaN ((gl s 1).length + 1) (((gl s 1).length : Nat) : Int) 0 (V.agg [(V.int .i64 (gi s 0)), (V.sl 2 Zg 0 none), (V.sl 3 Zf 0 none), (V.int .i64 (gi s 3)), (V.sl 4 Zd 0 none), (V.sl 5 Ze 0 none)]) (V.agg [(V.int .i64 0), (V.sl 6 Zg 0 none), (V.sl 7 Zf 0 none), (V.int .i64 0), (V.sl 8 Zd 0 none), (V.sl 9 Ze 0 none)]) (gl s 1) (gl s 2) (gl s 4) (gl s 5) [] [] [] [] =
      some ((V.agg [(V.int .i64 (gi s 0)), (V.sl 2 Zg 0 none), (V.sl 3 Zf 0 none), (V.int .i64 (gi s 3)), (V.sl 4 Zd 0 none), (V.sl 5 Ze 0 none)]), (V.agg [(V.int .i64 0), (V.sl 6 Zg 0 none), (V.sl 7 Zf 0 none), (V.int .i64 0), (V.sl 8 Zd 0 none), (V.sl 9 Ze 0 none)]), R, gl s 2, gl s 4, gl s 5, [], [], [], []) ∧ SameL RowE R (gl s 1) ∧ (∀ r ∈ R, nrow r = r) := by
    refine ZcN (σ := List V) (F := fun m r i => ZaN m (((gl s 1).length : Nat) : Int) i (V.agg [(V.int .i64 (gi s 0)), (V.sl 2 Zg 0 none), (V.sl 3 Zf 0 none), (V.int .i64 (gi s 3)), (V.sl 4 Zd 0 none), (V.sl 5 Ze 0 none)]) (V.agg [(V.int .i64 0), (V.sl 6 Zg 0 none), (V.sl 7 Zf 0 none), (V.int .i64 0), (V.sl 8 Zd 0 none), (V.sl 9 Ze 0 none)]) r (gl s 2) (gl s 4) (gl s 5) [] [] [] []) (n := (gl s 1).length) (fun i r => SameL RowE r (gl s 1) ∧ ∀ j, j < i → nrow (rd r j) = rd r j) (fun o => ∃ R, o = some ((V.agg [(V.int .i64 (gi s 0)), (V.sl 2 Zg 0 none), (V.sl 3 Zf 0 none), (V.int .i64 (gi s 3)), (V.sl 4 Zd 0 none), (V.sl 5 Ze 0 none)]), (V.agg [(V.int .i64 0), (V.sl 6 Zg 0 none), (V.sl 7 Zf 0 none), (V.int .i64 0), (V.sl 8 Zd 0 none), (V.sl 9 Ze 0 none)]), R, gl s 2, gl s 4, gl s 5, [], [], [], []) ∧ SameL RowE R (gl s 1) ∧ (∀ r ∈ R, nrow r = r)) ?_ ?_ ⟨⟨rfl, fun j _ => ⟨rfl, rfl, rfl, rfl⟩⟩, fun j hj => absurd hj (Nat.not_lt_zero _)⟩
    · intro m i r hi hI0
      have hI := hI0.1
      obtain ⟨q1, q2, q3, q4⟩ := hI.2 i hi
      obtain ⟨k1, k2⟩ := hk i hi
      have hri : i < r.length := by rw [hI.1]; exact hi
      refine .inl ?_
      simp only [ZaN, ZaD hi, Zp hri, Int.toNat_natCast, Nat.zero_add, cond_true, List.length_set, Zax hi (show (gl s 1).length ≤ 9223372036854775807 by omega), Zc4 (show (gl (rd r i) 0).length ≤ 1000 by rw [q1]; exact k1), Zc4 (show (gl (rd r i) 1).length ≤ 1000 by rw [q2]; exact k2), Option.bind_some]
      refine ⟨_, rfl, SameL.set (SameL.set (z := ZbA (gl (rd r i) 0) (gl (rd r i) 1) (gi (rd r i) 2) (gi (rd r i) 3)) hI ⟨q1, q2, q3, q4⟩) ?_, fun j hj => ?_⟩
      · rw [ZbD hri]
        exact ⟨q1, q2, q3, q4⟩
      · by_cases hji : j = i
        · subst hji; rw [ZbD (by rw [List.length_set]; exact hri)]; rfl
        · rw [ZdC hji, ZdC hji]; exact hI0.2 j (by omega)
    · intro m r hI
      have hx : ∀ x ∈ r, nrow x = x := fun x hx => by
        obtain ⟨j, hj, e⟩ := List.getElem_of_mem hx
        have e : rd r j = x := by simp [rd, List.getD, hj, e]
        rw [← e]; exact hI.2 j (by have := hI.1.1; omega)
      refine ⟨r, ?_, hI.1, hx⟩
      simp only [ZaN, Zas, cond_false]; rfl
  obtain ⟨R, e3, hR, hRn⟩ := L3
  rw [e3]
  simp only [Option.bind_some]
  have L8 : ∃ T, ZaO ((gl s 2).length + 1) (((gl s 2).length : Nat) : Int) 0 (V.agg [(V.int .i64 (gi s 0)), (V.sl 3 Zg 0 none), (V.sl 2 Zf 0 none), (V.int .i64 (gi s 3)), (V.sl 4 Zd 0 none), (V.sl 5 Ze 0 none)]) (V.agg [(V.int .i64 0), (V.sl 6 Zg 0 none), (V.sl 7 Zf 0 none), (V.int .i64 0), (V.sl 8 Zd 0 none), (V.sl 9 Ze 0 none)]) (gl s 2) R (gl s 4) (gl s 5) [] [] [] [] =
      some ((V.agg [(V.int .i64 (gi s 0)), (V.sl 2 Zg 0 none), (V.sl 3 Zf 0 none), (V.int .i64 (gi s 3)), (V.sl 4 Zd 0 none), (V.sl 5 Ze 0 none)]), (V.agg [(V.int .i64 0), (V.sl 6 Zg 0 none), (V.sl 7 Zf 0 none), (V.int .i64 0), (V.sl 8 Zd 0 none), (V.sl 9 Ze 0 none)]), R, T, gl s 4, gl s 5, [], [], [], []) ∧ SameL Zh5 T (gl s 2) ∧ (∀ t ∈ T, Ze8 t = t) := by
    refine ZcN (σ := List V) (F := fun m r i => ZaO m (((gl s 2).length : Nat) : Int) i (V.agg [(V.int .i64 (gi s 0)), (V.sl 3 Zg 0 none), (V.sl 2 Zf 0 none), (V.int .i64 (gi s 3)), (V.sl 4 Zd 0 none), (V.sl 5 Ze 0 none)]) (V.agg [(V.int .i64 0), (V.sl 6 Zg 0 none), (V.sl 7 Zf 0 none), (V.int .i64 0), (V.sl 8 Zd 0 none), (V.sl 9 Ze 0 none)]) r R (gl s 4) (gl s 5) [] [] [] []) (n := (gl s 2).length) (fun i r => SameL Zh5 r (gl s 2) ∧ ∀ j, j < i → Ze8 (rd r j) = rd r j) (fun o => ∃ T, o = some ((V.agg [(V.int .i64 (gi s 0)), (V.sl 2 Zg 0 none), (V.sl 3 Zf 0 none), (V.int .i64 (gi s 3)), (V.sl 4 Zd 0 none), (V.sl 5 Ze 0 none)]), (V.agg [(V.int .i64 0), (V.sl 6 Zg 0 none), (V.sl 7 Zf 0 none), (V.int .i64 0), (V.sl 8 Zd 0 none), (V.sl 9 Ze 0 none)]), R, T, gl s 4, gl s 5, [], [], [], []) ∧ SameL Zh5 T (gl s 2) ∧ (∀ t ∈ T, Ze8 t = t)) ?_ ?_ ⟨⟨rfl, fun j _ => ⟨rfl, rfl⟩⟩, fun j hj => absurd hj (Nat.not_lt_zero _)⟩
    · intro m i r hi hI0
      have hI := hI0.1
      obtain ⟨q1, q2⟩ := hI.2 i hi
      have k1 := hk2 i hi
      have hri : i < r.length := by rw [hI.1]; exact hi
      refine .inl ?_
      simp only [ZaO, ZaD hi, Zp hri, Int.toNat_natCast, Nat.zero_add, cond_true, Zax hi (show (gl s 2).length ≤ 9223372036854775807 by omega), Zc4 (show (gl (rd r i) 0).length ≤ 1000 by rw [q1]; exact k1), Option.bind_some]
      refine ⟨_, rfl, hI.set ⟨q1, q2⟩, fun j hj => ?_⟩
      by_cases hji : j = i
      · subst hji; rw [ZbD hri]; rfl
      · rw [ZdC hji]; exact hI0.2 j (by omega)
    · intro m r hI
      have hx : ∀ x ∈ r, Ze8 x = x := fun x hx => by
        obtain ⟨j, hj, e⟩ := List.getElem_of_mem hx
        have e : rd r j = x := by simp [rd, List.getD, hj, e]
        rw [← e]; exact hI.2 j (by have := hI.1.1; omega)
      refine ⟨r, ?_, hI.1, hx⟩
      simp only [ZaO, Zas, cond_false]; rfl
  obtain ⟨T, e8, hT, hTn⟩ := L8
  refine ⟨R, T, ?_, hR, hT, hRn, hTn⟩
  refine Eq.trans (congrArg (fun o => Option.bind o _) (show _ = _ from e8)) ?_
  rfl
end Go.Eng.R
open Go Go.Eng
namespace Go.Eng.R
set_option maxRecDepth 100000
theorem Zki {l : List V} {i : Nat} (hi : i < l.length) (hl : l.length ≤ 1000) : Zdq l (i : Int) (IntKind.i64.wrap ((i : Int) + 1)) = some (ZaP l i) := by
  rw [ZaK (by omega) (by omega)]
  unfold Zdq ZaP
  rw [decide_eq_true (show (0 : Int) ≤ (i : Int) by omega), decide_eq_true (show (i : Int) ≤ (i : Int) + 1 by omega), decide_eq_true (show (i : Int) + 1 ≤ (l.length : Int) by omega), decide_eq_true (show l.length ≤ 9223372036854775807 by omega), show ((i : Int) + 1).toNat = i + 1 by omega, Int.toNat_natCast]
  rfl
theorem Znh {b : Nat} {l : List V} {i : Nat} {x : V} (hi : i ≤ l.length) (hl : l.length ≤ 1000) (hb : b ≤ 64) : ZcT b l (i : Int) [x] = some (ZaI l i x) := by
  have hm : (l.length + 1) * b ≤ 140737488355328 := Nat.le_trans (Nat.mul_le_mul (show l.length + 1 ≤ 1001 by omega) hb) (by decide)
  unfold ZcT ZaI
  rw [decide_eq_true (show (0 : Int) ≤ (i : Int) by omega), decide_eq_true (show (i : Int) ≤ (l.length : Int) by omega), ZgN hm (by omega), Int.toNat_natCast]
  rfl
theorem ZkI {l : List V} {i : Nat} (h : i ≤ l.length) (x y : V) : (ZaI l i x).set i y = ZaI l i y := by
  unfold ZaI
  have ht : (l.take i).length = i := by rw [List.length_take]; omega
  rw [List.append_assoc, List.append_assoc, List.set_append, if_neg (by omega), ht, Nat.sub_self]
  rfl
theorem ZgW {l k : List V} (ha : AscN (fun r => gl r 0) l) : Zd6 l k = lbN (fun r => gl r 0) l k := by
  have hle := Zgk (fun r => gl r 0) l k
  have hsp := Zfu ha k
  unfold Zd6
  cases hf : Zt (fun i => !nlt (gl (rd l i) 0) k) 0 l.length with
  | none =>
    show l.length = _
    rcases Nat.lt_or_ge (lbN (fun r => gl r 0) l k) l.length with c | c
    · have h1 : (!nlt (gl (rd l (lbN (fun r => gl r 0) l k)) 0) k) = false := firstI_none.1 hf _ (Nat.zero_le _) (by omega)
      have h2 := hsp _ c
      have h2 : nlt (gl (rd l (lbN (fun r => gl r 0) l k)) 0) k = decide (lbN (fun r => gl r 0) l k < lbN (fun r => gl r 0) l k) := h2
      rw [h2, decide_eq_false (Nat.lt_irrefl _)] at h1; cases h1
    · omega
  | some j =>
    obtain ⟨-, h1, h2, h3⟩ := ZaA hf
    show j = _
    have h2 : (!nlt (gl (rd l j) 0) k) = true := h2
    have e2 : nlt (gl (rd l j) 0) k = decide (j < lbN (fun r => gl r 0) l k) := hsp j (by omega)
    rw [e2] at h2
    have h2 : ¬ j < lbN (fun r => gl r 0) l k := by simpa using h2
    rcases Nat.lt_or_ge (lbN (fun r => gl r 0) l k) j with c | c
    · have h4 : (!nlt (gl (rd l (lbN (fun r => gl r 0) l k)) 0) k) = false := h3 _ (Nat.zero_le _) c
      have e4 : nlt (gl (rd l (lbN (fun r => gl r 0) l k)) 0) k = decide (lbN (fun r => gl r 0) l k < lbN (fun r => gl r 0) l k) := hsp _ (by omega)
      rw [e4, decide_eq_false (Nat.lt_irrefl _)] at h4; cases h4
    · omega
theorem ZgX {l k : List V} (ha : AscN (fun r => gl r 0) l) : Zt (fun i => neq (gl (rd l i) 0) k) 0 l.length = bif Zb8 (fun r => gl r 0) l k then some (lbN (fun r => gl r 0) l k) else none := ZlN ha k
theorem Zkj {nm : V → List V} {l t : List V} (h : Zb8 nm l t = true) : lbN nm l t < l.length := by
  unfold Zb8 at h
  rw [Bool.and_eq_true] at h
  exact of_decide_eq_true h.1
theorem Zix {s : SD} {key val : List V} (ha : AscN (fun r => gl r 0) s.rows) (hr : s.rows.length ≤ 20) (ht : s.tombs.length ≤ 1000) (hk : key.length ≤ 1000) (hv : val.length ≤ 1000) :
    ZR s.v key val = some ((s.put key val).1, (s.put key val).2.v) := by
  have hle := Zgk (fun r => gl r 0) s.rows key
  unfold ZR SD.put
  rw [Zf5 (s := s.v) (show s.rows.length ≤ 4194304 by omega) ha key, ZgX ha, ZgW ha]
  simp only [show gl s.v 1 = s.rows from rfl, show gl s.v 2 = s.tombs from rfl, show gl s.v 4 = s.sess from rfl, show gl s.v 5 = s.lasts from rfl, Option.bind_some, Zc4 hk, Zc4 hv]
  cases hh : Zb8 (fun r => gl r 0) s.rows key with
  | true =>
    have hlt := Zkj hh
    simp only [Bool.not_true, cond_false, cond_true, Int.toNat_natCast, Nat.zero_add, List.length_set, Zp hlt, ZbD hlt, List.set_set]
    rfl
  | false =>
    simp only [Bool.not_false, cond_true, cond_false]
    by_cases h20 : 20 ≤ s.rows.length
    · rw [decide_eq_true h20, decide_eq_true (show (((s.rows.length : Nat) : Int) = 20) by omega)]; rfl
    rw [decide_eq_false h20, decide_eq_false (show ¬ (((s.rows.length : Nat) : Int) = 20) by omega)]
    simp only [cond_false]
    rw [Znh hle (by omega) (Nat.le_refl _)]
    simp only [Option.bind_some]
    have hl' := Zd5 (x := ZbA key [] 0 0) hle
    have hlt : lbN (fun r => gl r 0) s.rows key < (ZaI s.rows (lbN (fun r => gl r 0) s.rows key) (ZbA key [] 0 0)).length := by omega
    have hl2 : lbN (fun r => gl r 0) s.rows key < s.rows.length + 1 := by omega
    have et : Zbf (V.agg [(V.int .i64 (gi s.v 0)), (V.inl Zg (ZaI s.rows (lbN (fun r => gl r 0) s.rows key) (V.agg [(V.inl Zb key), (V.inl Zb []), (V.int .i64 0), (V.int .i64 0)]))), (V.inl Zf s.tombs), (V.int .i64 (gi s.v 3)), (V.inl Zd s.sess), (V.inl Ze s.lasts)]) key = some (fK s.tombs key) :=
      ZhI (s := V.agg [(V.int .i64 (gi s.v 0)), (V.inl Zg (ZaI s.rows (lbN (fun r => gl r 0) s.rows key) (V.agg [(V.inl Zb key), (V.inl Zb []), (V.int .i64 0), (V.int .i64 0)]))), (V.inl Zf s.tombs), (V.int .i64 (gi s.v 3)), (V.inl Zd s.sess), (V.inl Ze s.lasts)]) (show s.tombs.length ≤ 9223372036854775807 by omega) key
    rw [et]
    simp only [Option.bind_some]
    unfold ZbA at hlt
    cases hft : Zt (fun i => neq (gl (rd s.tombs i) 0) key) 0 s.tombs.length with
    | none =>
      rw [fK_none hft, show decide ((0 : Int) ≤ -1) = false from rfl]
      simp only [cond_false, Int.toNat_natCast, Nat.zero_add, List.length_set, Zp hlt, cond_true, ZbD hlt, List.set_set, ZjV hle, ZkI hle, Zd5 hle, Zp hl2]
      rfl
    | some j =>
      have hj := ZjU hft
      rw [Zna hft, decide_eq_true (show (0 : Int) ≤ (j : Int) by omega)]
      simp only [cond_true, Zki hj ht, Option.bind_some, Int.toNat_natCast, Nat.zero_add, List.length_set, Zp hlt, ZbD hlt, List.set_set, ZjV hle, ZkI hle, Zd5 hle, Zp hl2]
      rfl
theorem Zgo {s : SD} {i : Nat} (hi : i < s.rows.length) (hr : s.rows.length ≤ 1000) (ht : s.tombs.length ≤ 10) : ZbM s.v (i : Int) = some (s.bury i).v := by
  unfold ZbM
  simp only [show gl s.v 1 = s.rows from rfl, show gl s.v 2 = s.tombs from rfl, show gl s.v 4 = s.sess from rfl, show gl s.v 5 = s.lasts from rfl, show gi s.v 0 = s.idx from rfl, show gi s.v 3 = s.lost from rfl, Zp hi, Int.toNat_natCast, Nat.zero_add, cond_true, Zki hi hr, Option.bind_some]
  rw [ZdI (by omega) (by omega)]
  simp only [cond_true]
  have hl : (s.tombs ++ [V.agg [V.inl Zb (gl (rd s.rows i) 0), V.int .i64 s.idx]]).length = s.tombs.length + 1 := by rw [List.length_append, List.length_singleton]
  rw [hl]
  unfold SD.bury
  by_cases h10 : 10 < s.tombs.length + 1
  · rw [decide_eq_true h10, show (((s.tombs.length + 1 : Nat) : Int) - 10).toNat + 1 = 2 by omega]
    have e2 : Z3 2 (s.b 1 2 3 4) (ZaP s.rows i) (s.tombs ++ [V.agg [V.inl Zb (gl (rd s.rows i) 0), V.int .i64 s.idx]]) s.sess s.lasts =
        some (V.agg [(V.int .i64 s.idx), (V.sl 1 Zg 0 none), (V.sl 2 Zf 0 none), (V.int .i64 (gi (rd (s.tombs ++ [V.agg [V.inl Zb (gl (rd s.rows i) 0), V.int .i64 s.idx]]) 0) 1)), (V.sl 3 Zd 0 none), (V.sl 4 Ze 0 none)], ZaP s.rows i, (s.tombs ++ [V.agg [V.inl Zb (gl (rd s.rows i) 0), V.int .i64 s.idx]]).drop 1, s.sess, s.lasts) := by
      have ed : Zdq (s.tombs ++ [V.agg [V.inl Zb (gl (rd s.rows i) 0), V.int .i64 s.idx]]) 0 1 = some ((s.tombs ++ [V.agg [V.inl Zb (gl (rd s.rows i) 0), V.int .i64 s.idx]]).drop 1) := by
        unfold Zdq
        rw [hl, decide_eq_true (show (1 : Int) ≤ ((s.tombs.length + 1 : Nat) : Int) by omega), decide_eq_true (show s.tombs.length + 1 ≤ 9223372036854775807 by omega)]; rfl
      rw [Z3, hl, decide_eq_true (show (10 : Int) < ((s.tombs.length + 1 : Nat) : Int) by omega), show Zm 0 (s.tombs.length + 1) = true from Zp (i := 0) (by omega), ed]
      simp only [cond_true, Option.bind_some]
      rw [Z3, List.length_drop, hl, decide_eq_false (show ¬ (10 : Int) < ((s.tombs.length + 1 - 1 : Nat) : Int) by omega)]
      rfl
    refine Eq.trans (congrArg (fun o => Option.bind o _) (show _ = _ from e2)) ?_
    rfl
  · rw [decide_eq_false h10, show (((s.tombs.length + 1 : Nat) : Int) - 10).toNat + 1 = 1 by omega]
    have e2 : Z3 1 (s.b 1 2 3 4) (ZaP s.rows i) (s.tombs ++ [V.agg [V.inl Zb (gl (rd s.rows i) 0), V.int .i64 s.idx]]) s.sess s.lasts =
        some (s.b 1 2 3 4, ZaP s.rows i, s.tombs ++ [V.agg [V.inl Zb (gl (rd s.rows i) 0), V.int .i64 s.idx]], s.sess, s.lasts) := by
      rw [Z3, hl, decide_eq_false (show ¬ (10 : Int) < ((s.tombs.length + 1 : Nat) : Int) by omega)]; rfl
    refine Eq.trans (congrArg (fun o => Option.bind o _) (show _ = _ from e2)) ?_
    rfl
theorem ZjY {s : SD} {i : Nat} (hi : i < s.rows.length) (ht : s.tombs.length ≤ 10) : (s.bury i).rows.length = s.rows.length - 1 ∧ (s.bury i).tombs.length ≤ 10 := by
  unfold SD.bury
  by_cases h : 10 < s.tombs.length + 1
  · rw [decide_eq_true h]
    exact ⟨ZdY hi, by show ((s.tombs ++ [_]).drop 1).length ≤ 10; rw [List.length_drop, List.length_append, List.length_singleton]; omega⟩
  · rw [decide_eq_false h]
    exact ⟨ZdY hi, by show (s.tombs ++ [_]).length ≤ 10; rw [List.length_append, List.length_singleton]; omega⟩
theorem ZdR {id : Int} {del : Bool} : ∀ (n k : Nat) (s : SD), k ≤ s.rows.length → s.rows.length - k ≤ n → s.rows.length ≤ 1000 → s.tombs.length ≤ 10 → ∀ m, s.rows.length - k < m →
    Z4 m id del (k : Int) (s.b 1 2 3 4) s.rows s.tombs s.sess s.lasts = some ((SD.shutL id del n k s).b 1 2 3 4, (SD.shutL id del n k s).rows, (SD.shutL id del n k s).tombs, (SD.shutL id del n k s).sess, (SD.shutL id del n k s).lasts)
  | n, k, s, hk, hn, hb, ht, 0, hm => by omega
  | 0, k, s, hk, hn, hb, ht, m + 1, hm => by
    obtain rfl : k = s.rows.length := by omega
    rw [Z4, Zas]; rfl
  | n + 1, k, s, hk, hn, hb, ht, m + 1, hm => by
    by_cases h : k < s.rows.length
    case neg =>
      obtain rfl : k = s.rows.length := by omega
      rw [Z4, Zas, SD.shutL, decide_eq_false h]; rfl
    rw [Z4, SD.shutL, decide_eq_true h]
    simp only [ZaD h, Zp h, Nat.zero_add, Int.toNat_natCast, cond_true, Zax h (show s.rows.length ≤ 9223372036854775807 by omega)]
    by_cases hh : gi (rd s.rows k) 3 = id
    case neg =>
      rw [decide_eq_false hh]
      exact ZdR n (k + 1) s (by omega) (by omega) hb ht m (by omega)
    rw [decide_eq_true hh]
    cases del with
    | true =>
      obtain ⟨l1, l2⟩ := ZjY h ht
      simp only [Bool.not_true, cond_false, cond_true]
      refine Eq.trans (congrArg (fun o => Option.bind o _) (show _ = _ from Zgo h hb ht)) ?_
      have e1 : IntKind.i64.wrap (IntKind.i64.wrap ((k : Int) - 1) + 1) = (k : Int) := by rw [ZaK (n := (k : Int) - 1) (by omega) (by omega), ZaK (by omega) (by omega)]; omega
      rw [e1]
      exact ZdR n k (s.bury k) (by omega) (by omega) (by omega) l2 m (by omega)
    | false =>
      simp only [Bool.not_true, cond_false, List.length_set, Zp h, cond_true, ZbD h, List.set_set]
      exact ZdR n (k + 1) { s with rows := s.rows.set k (ZbA (gl (rd s.rows k) 0) (gl (rd s.rows k) 1) s.idx 0) } (by show k + 1 ≤ (s.rows.set k _).length; rw [List.length_set]; omega) (by show (s.rows.set k _).length - (k + 1) ≤ n; rw [List.length_set]; omega) (by show (s.rows.set k _).length ≤ 1000; rw [List.length_set]; exact hb) ht m (by show (s.rows.set k _).length - (k + 1) < m; rw [List.length_set]; omega)
theorem Zl1 {s : SD} {id : Int} (hr : s.rows.length ≤ 1000) (ht : s.tombs.length ≤ 10) (hs : s.sess.length ≤ 1000) : Zco s.v id = (match s.sessAt id with | some i => some (0, (s.shut i).v) | none => some (1, s.v)) := by
  unfold Zco SD.sessAt
  rw [Zem (s := s.v) (show s.sess.length ≤ 9223372036854775807 by omega) id]
  simp only [Option.bind_some, show gl s.v 4 = s.sess from rfl]
  cases hf : Zt (fun i => decide (gi (rd s.sess i) 0 = id)) 0 s.sess.length with
  | none => rw [Znc hf]; rfl
  | some j =>
    obtain ⟨-, h1, h2, -⟩ := ZaA hf
    have hj : j < s.sess.length := by omega
    have h2 : gi (rd s.sess j) 0 = id := of_decide_eq_true h2
    rw [Znb hf, decide_eq_false (show ¬ (j : Int) < 0 by omega)]
    simp only [cond_false, Zp hj, cond_true, Zki hj hs, Option.bind_some, Int.toNat_natCast, Nat.zero_add, show gl s.v 1 = s.rows from rfl, show gl s.v 2 = s.tombs from rfl, show gl s.v 5 = s.lasts from rfl, Zbq]
    subst h2
    refine Eq.trans (congrArg (fun o => Option.bind o _) (show _ = _ from ZdR (id := gi (rd s.sess j) 0) (del := gb (rd s.sess j) 1) s.rows.length 0 { s with sess := ZaP s.sess j } (Nat.zero_le _) (by show s.rows.length - 0 ≤ _; omega) hr ht (s.rows.length + 1) (by show s.rows.length - 0 < _; omega))) ?_
    rfl
end Go.Eng.R
open Go Go.Eng
namespace Go.Eng.R
set_option maxRecDepth 100000
theorem ZhK {q : Nat → Bool} {n j : Nat} (hj : j < n) (h1 : q j = true) (h0 : ∀ t, t < j → q t = false) : Zt q 0 n = some j := by
  cases hf : Zt q 0 n with
  | none => have := firstI_none.1 hf j (Nat.zero_le _) (by omega); rw [h1] at this; cases this
  | some i =>
    obtain ⟨-, h2, h3, h4⟩ := ZaA hf
    rcases Nat.lt_trichotomy i j with c | c | c
    · rw [h0 i c] at h3; cases h3
    · rw [c]
    · have := h4 j (Nat.zero_le _) c; rw [h1] at this; cases this
theorem Zkk {l : List V} {i t : Nat} {x : V} (hi : i ≤ l.length) (h : t < i) : rd (ZaI l i x) t = rd l t := by
  unfold ZaI rd
  have ht : (l.take i).length = i := by rw [List.length_take]; omega
  simp only [List.getD]
  rw [List.append_assoc, List.getElem?_append_left (by omega), List.getElem?_take, if_pos h]
theorem put_at {s : SD} {key val : List V} (ha : AscN (fun r => gl r 0) s.rows) (h : (s.put key val).1 = true) :
    Zt (fun i => neq (gl (rd (s.put key val).2.rows i) 0) key) 0 (s.put key val).2.rows.length = some (lbN (fun r => gl r 0) s.rows key) ∧ lbN (fun r => gl r 0) s.rows key < (s.put key val).2.rows.length := by
  have hle := Zgk (fun r => gl r 0) s.rows key
  have hf := ZgX (k := key) ha
  revert h
  unfold SD.put
  rw [hf]
  cases hh : Zb8 (fun r => gl r 0) s.rows key with
  | true =>
    intro _
    have hlt := Zkj hh
    rw [hh] at hf
    obtain ⟨-, h1, h2, h3⟩ := ZaA hf
    have hl : (s.rows.set (lbN (fun r => gl r 0) s.rows key) (ZbA (gl (rd s.rows (lbN (fun r => gl r 0) s.rows key)) 0) val s.idx (gi (rd s.rows (lbN (fun r => gl r 0) s.rows key)) 3))).length = s.rows.length := List.length_set
    refine ⟨ZhK (by rw [← hl] at hlt; exact hlt) ?_ fun t ht => ?_, by rw [← hl] at hlt; exact hlt⟩
    · show neq (gl (rd (s.rows.set _ _) _) 0) key = true
      rw [ZbD hlt]; exact h2
    · show neq (gl (rd (s.rows.set _ _) _) 0) key = false
      rw [ZdC (by omega)]; exact h3 t (Nat.zero_le _) ht
  | false =>
    simp only [cond_false]
    by_cases h20 : 20 ≤ s.rows.length
    · rw [dT h20]; intro h; cases h
    rw [dF h20]
    intro _
    rw [ZgW ha]
    have hl := Zd5 (x := ZbA key val s.idx 0) hle
    have hlt : lbN (fun r => gl r 0) s.rows key < (ZaI s.rows (lbN (fun r => gl r 0) s.rows key) (ZbA key val s.idx 0)).length := by omega
    refine ⟨ZhK hlt ?_ fun t ht => ?_, hlt⟩
    · show neq (gl (rd (ZaI _ _ _) _) 0) key = true
      rw [ZjV hle]; exact ZgV key
    · show neq (gl (rd (ZaI _ _ _) _) 0) key = false
      rw [Zkk hle ht]
      have := Zfu ha key t (by omega)
      rw [decide_eq_true ht] at this
      exact Zh0 this
def opK (k : Int) : Prop := k = 1 ∨ k = 2 ∨ k = 3 ∨ k = 6 ∨ k = 7
theorem iputP {s : SD} {key val : List V} (ha : AscN (fun r => gl r 0) s.rows) (hr : s.rows.length ≤ 20) (ht : s.tombs.length ≤ 1000) (hk : key.length ≤ 1000) (hv : val.length ≤ 1000) :
    (Option.bind (ZR (Zc s.v) key val) fun r => bif (!r.1) then some ((4 : Int), (Zc r.2)) else some (0, (Zc r.2))) = some ((s.puts key val).1, (s.puts key val).2.v) := by
  refine Eq.trans (congrArg (fun o => Option.bind o _) (show _ = _ from Zix ha hr ht hk hv)) ?_
  unfold SD.puts Zfy
  cases (s.put key val).1 <;> rfl
theorem itakeP {s : SD} {key val : List V} {n : Int} (ha : AscN (fun r => gl r 0) s.rows) (hr : s.rows.length ≤ 20) (ht : s.tombs.length ≤ 1000) (hk : key.length ≤ 1000) (hv : val.length ≤ 1000) :
    (Option.bind (ZR (Zc s.v) key val) fun r => bif (!r.1) then some ((4 : Int), (Zc r.2)) else
      bif (Zm (((lbN (fun r => gl r 0) s.rows key : Nat) : Int)) ((gl r.2 1).length)) then some (0, (V.agg [(V.int .i64 (gi r.2 0)), (V.inl Zg ((gl r.2 1).set (lbN (fun r => gl r 0) s.rows key) (V.agg [(V.inl Zb (gl (rd (gl r.2 1) (lbN (fun r => gl r 0) s.rows key)) 0)), (V.inl Zb (gl (rd (gl r.2 1) (lbN (fun r => gl r 0) s.rows key)) 1)), (V.int .i64 (gi (rd (gl r.2 1) (lbN (fun r => gl r 0) s.rows key)) 2)), (V.int .i64 n)]))), (V.inl Zf (gl r.2 2)), (V.int .i64 (gi r.2 3)), (V.inl Zd (gl r.2 4)), (V.inl Ze (gl r.2 5))])) else none) =
    some ((bif (s.put key val).1 then ((0 : Int), (s.put key val).2.hold key n) else (4, (s.put key val).2)).1, (bif (s.put key val).1 then ((0 : Int), (s.put key val).2.hold key n) else (4, (s.put key val).2)).2.v) := by
  refine Eq.trans (congrArg (fun o => Option.bind o _) (show _ = _ from Zix ha hr ht hk hv)) ?_
  have hp := put_at (s := s) (key := key) (val := val) ha
  revert hp
  generalize s.put key val = q
  obtain ⟨b, q⟩ := q
  intro hp
  cases b with
  | false => rfl
  | true =>
    obtain ⟨hf, hj⟩ := hp rfl
    simp only [Option.bind_some, Bool.not_true, cond_false, cond_true, show gl q.v 1 = q.rows from rfl]
    rw [Zp hj]
    unfold SD.hold
    rw [show Zt (fun i => neq (gl (rd q.rows i) 0) key) 0 q.rows.length = some (lbN (fun r => gl r 0) s.rows key) from hf]
    rfl
theorem ZnM {s : SD} {o : V} (ha : AscN (fun r => gl r 0) s.rows) (hr : s.rows.length ≤ 20) (ht : s.tombs.length ≤ 10) (hs : s.sess.length ≤ 8) (hk : (gl o 1).length ≤ 1000) (hv : (gl o 2).length ≤ 1000) (hk0 : opK (gi o 0) → 0 < (gl o 1).length) :
    Zbj s.v o = some ((s.do' (gi o 0) (gl o 1) (gl o 2) (gi o 3)).1, (s.do' (gi o 0) (gl o 1) (gl o 2) (gi o 3)).2.v) := by
  have er : Za0 (Zc s.v) (gl o 1) = some (((lbN (fun r => gl r 0) s.rows (gl o 1) : Nat) : Int), Zb8 (fun r => gl r 0) s.rows (gl o 1)) := Zf5 (s := s.v) (show s.rows.length ≤ 4194304 by omega) ha _
  have es : Zan (Zc s.v) (gi o 3) = some (fI s.sess (gi o 3)) := Zem (s := s.v) (show s.sess.length ≤ 9223372036854775807 by omega) _
  have eh : Zco (Zc s.v) (gi o 3) = _ := Zl1 (s := s) (id := gi o 3) (by omega) ht (by omega)
  have pp := iputP (s := s) (key := gl o 1) (val := gl o 2) ha hr (by omega) hk hv
  have tp := itakeP (s := s) (key := gl o 1) (val := gl o 2) (n := gi o 3) ha hr (by omega) hk hv
  have hlk : opK (gi o 0) → s.look (gl o 1) = bif Zb8 (fun r => gl r 0) s.rows (gl o 1) then some (lbN (fun r => gl r 0) s.rows (gl o 1)) else none := fun h => by
    unfold SD.look; rw [dT (hk0 h), cond_true]; exact ZgX ha
  have hlt := Zkj (nm := fun r => gl r 0) (l := s.rows) (t := gl o 1)
  unfold Zbj SD.do'
  simp only [er, es, eh, Option.bind_some, show gl s.v 1 = s.rows from rfl, show gl s.v 2 = s.tombs from rfl, show gl s.v 4 = s.sess from rfl, show gl s.v 5 = s.lasts from rfl, show gi s.v 0 = s.idx from rfl, show gi s.v 3 = s.lost from rfl, Int.toNat_natCast, Nat.zero_add]
  clear er es eh hk0 hk hv
  generalize gl o 1 = key at *
  generalize gl o 2 = val at *
  generalize gi o 3 = n at *
  generalize gi o 0 = k at *
  by_cases h1 : k = 1
  · rw [dT h1]
    simp only [cond_true]
    rw [dF (show ¬ k = 2 by omega)]
    cases hh : Zb8 (fun r => gl r 0) s.rows key with
    | false => exact pp
    | true => rw [Zp (hlt hh)]; exact pp
  rw [dF h1]
  by_cases h2 : k = 2
  · rw [dT h2, hlk (.inr (.inl h2))]
    simp only [cond_false, cond_true]
    cases hh : Zb8 (fun r => gl r 0) s.rows key with
    | false =>
      simp only [cond_false]
      by_cases hn : (0 : Int) = n
      · rw [dT hn]; exact pp
      · rw [dF hn]; rfl
    | true =>
      rw [Zp (hlt hh)]
      simp only [cond_true]
      by_cases hn : gi (rd s.rows (lbN (fun r => gl r 0) s.rows key)) 2 = n
      · rw [dT hn]; exact pp
      · rw [dF hn]; rfl
  rw [dF h2]
  by_cases h3 : k = 3
  · rw [dT h3, hlk (.inr (.inr (.inl h3)))]
    simp only [cond_false, cond_true]
    cases hh : Zb8 (fun r => gl r 0) s.rows key with
    | false => rfl
    | true =>
      simp only [Bool.not_true, cond_false, cond_true]
      refine Eq.trans (congrArg (fun o => Option.bind o _) (show _ = _ from Zgo (s := s) (hlt hh) (by omega) ht)) ?_
      rfl
  rw [dF h3]
  by_cases h4 : k = 4
  · rw [dT h4]
    simp only [cond_false, cond_true]
    by_cases h8 : 8 ≤ s.sess.length
    · rw [dT h8, dT (show (((s.sess.length : Nat) : Int) = 8) by omega)]; rfl
    · rw [dF h8, dF (show ¬ (((s.sess.length : Nat) : Int) = 8) by omega), ZdI (by omega) (by omega)]; rfl
  rw [dF h4]
  by_cases h5 : k = 5
  · rw [dT h5]
    simp only [cond_false, cond_true]
    cases hf : s.sessAt n with
    | none => rfl
    | some j => rfl
  rw [dF h5]
  by_cases h6 : k = 6
  · rw [dT h6, hlk (.inr (.inr (.inr (.inl h6))))]
    simp only [cond_false, cond_true]
    unfold SD.sessAt
    cases hf : Zt (fun i => decide (gi (rd s.sess i) 0 = n)) 0 s.sess.length with
    | none => rw [Znc hf]; rfl
    | some j =>
      rw [Znb hf, dF (show ¬ (j : Int) < 0 by omega)]
      simp only [cond_false]
      cases hh : Zb8 (fun r => gl r 0) s.rows key with
      | false => exact tp
      | true =>
        rw [Zp (hlt hh)]
        simp only [cond_true]
        by_cases hz : gi (rd s.rows (lbN (fun r => gl r 0) s.rows key)) 3 = 0
        · rw [dT hz]; exact tp
        rw [dF hz]
        by_cases hn : gi (rd s.rows (lbN (fun r => gl r 0) s.rows key)) 3 = n
        · rw [dT hn]; exact tp
        · rw [dF hn]; rfl
  rw [dF h6]
  by_cases h7 : k = 7
  · rw [dT h7, hlk (.inr (.inr (.inr (.inr h7))))]
    simp only [cond_false, cond_true]
    cases hh : Zb8 (fun r => gl r 0) s.rows key with
    | false => rfl
    | true =>
      have hj := hlt hh
      rw [Zp hj]
      simp only [Bool.not_true, cond_true, cond_false, List.length_set, Zp hj, ZbD hj, List.set_set]
      by_cases hn : gi (rd s.rows (lbN (fun r => gl r 0) s.rows key)) 3 = n
      · rw [dT hn]; rfl
      · rw [dF hn]; rfl
  rw [dF h7]
  rfl
theorem ZjZ {l : List V} {c : Int} (ha : AscI l) : Zbt l c = lbI l c := by
  have hle := ZjX l c
  have hsp := Zex ha c
  unfold Zbt
  cases hf : Zt (fun i => !decide (gi (rd l i) 0 < c)) 0 l.length with
  | none =>
    show l.length = _
    rcases Nat.lt_or_ge (lbI l c) l.length with h | h
    · have h1 : (!decide (gi (rd l (lbI l c)) 0 < c)) = false := firstI_none.1 hf _ (Nat.zero_le _) (by omega)
      rw [hsp _ h, decide_eq_false (Nat.lt_irrefl _)] at h1; cases h1
    · omega
  | some j =>
    obtain ⟨-, h1, h2, h3⟩ := ZaA hf
    show j = _
    have h2 : (!decide (gi (rd l j) 0 < c)) = true := h2
    rw [hsp j (by omega)] at h2
    have h2 : ¬ j < lbI l c := by simpa using h2
    rcases Nat.lt_or_ge (lbI l c) j with h | h
    · have h4 : (!decide (gi (rd l (lbI l c)) 0 < c)) = false := h3 _ (Nat.zero_le _) h
      rw [hsp _ (by omega), decide_eq_false (Nat.lt_irrefl _)] at h4; cases h4
    · omega
theorem Zg7 {s : SD} {c : V} (ha : AscN (fun r => gl r 0) s.rows) (hr : s.rows.length ≤ 20) (ht : s.tombs.length ≤ 10) (hs : s.sess.length ≤ 8) (hl : s.lasts.length ≤ 1000) (hla : AscI s.lasts) (hlb : ∀ i, i < s.lasts.length → 0 ≤ gi (rd s.lasts i) 0 ∧ gi (rd s.lasts i) 0 ≤ 3) (hi0 : 0 ≤ s.idx) (hi1 : s.idx ≤ 1000000)
    (hk : (gl c 3).length ≤ 1000) (hv : (gl c 4).length ≤ 1000) (hk0 : opK (gi c 2) → 0 < (gl c 3).length) (hc : gi c 0 < 0 ∨ (0 ≤ gi c 0 ∧ gi c 0 ≤ 3)) :
    Zbr s.v (ZY c) = some ((V.agg [(V.int .i64 (s.apply c).1.1), (V.int .i64 (s.apply c).1.2)]), (s.apply c).2.v) := by
  have ew : IntKind.i64.wrap (s.idx + 1) = s.idx + 1 := ZaK (by omega) (by omega)
  unfold Zbr SD.apply
  simp only [show gi (ZY c) 0 = gi c 0 from rfl, show gi (ZY c) 1 = gi c 1 from rfl, show gi (ZY c) 2 = gi c 2 from rfl, show gl (ZY c) 3 = gl c 3 from rfl, show gl (ZY c) 4 = gl c 4 from rfl, show gi (ZY c) 5 = gi c 5 from rfl, show gl s.v 1 = s.rows from rfl, show gl s.v 2 = s.tombs from rfl, show gl s.v 4 = s.sess from rfl, show gl s.v 5 = s.lasts from rfl, show gi s.v 0 = s.idx from rfl, show gi s.v 3 = s.lost from rfl, ew]
  by_cases h0 : gi c 0 < 0
  · rw [dT h0]; rfl
  rw [dF h0]
  have hc' : 0 ≤ gi c 0 ∧ gi c 0 ≤ 3 := by omega
  have el : Zcn (V.agg [(V.int .i64 (s.idx + 1)), (V.inl Zg s.rows), (V.inl Zf s.tombs), (V.int .i64 s.lost), (V.inl Zd s.sess), (V.inl Ze s.lasts)]) (gi c 0) = some (((lbI s.lasts (gi c 0) : Nat) : Int), Zfz s.lasts (gi c 0)) := by
    unfold Zcn
    show Option.bind (ZaE s.lasts (gi c 0)) _ = _
    rw [bsI_eq (by omega) hla hlb hc']; rfl
  rw [el]
  have ed := ZnM (s := s.up) (o := V.agg [(V.int .i64 (gi c 2)), (V.inl Zb (gl c 3)), (V.inl Zb (gl c 4)), (V.int .i64 (gi c 5))]) ha hr ht hs hk hv hk0
  have ed' : Zbj (V.agg [(V.int .i64 (s.idx + 1)), (V.inl Zg s.rows), (V.inl Zf s.tombs), (V.int .i64 s.lost), (V.inl Zd s.sess), (V.inl Ze s.lasts)]) (V.agg [(V.int .i64 (gi c 2)), (V.inl Zb (gl c 3)), (V.inl Zb (gl c 4)), (V.int .i64 (gi c 5))]) = some ((s.up.do' (gi c 2) (gl c 3) (gl c 4) (gi c 5)).1, (s.up.do' (gi c 2) (gl c 3) (gl c 4) (gi c 5)).2.v) := ed
  have hdl : (s.up.do' (gi c 2) (gl c 3) (gl c 4) (gi c 5)).2.lasts = s.lasts := do_lasts s.up _ _ _ _
  rw [ZjZ hla]
  clear ed el
  generalize s.up.do' (gi c 2) (gl c 3) (gl c 4) (gi c 5) = q at *
  obtain ⟨qc, q⟩ := q
  have hdl : q.lasts = s.lasts := hdl
  simp only [Option.bind_some, cond_false, ed']
  have hle := ZjX s.lasts (gi c 0)
  have ehas : (decide (lbI s.lasts (gi c 0) < s.lasts.length) && decide (gi (rd s.lasts (lbI s.lasts (gi c 0))) 0 = gi c 0)) = Zfz s.lasts (gi c 0) := rfl
  rw [ehas]
  cases hh : Zfz s.lasts (gi c 0) with
  | true =>
    have hh' := hh
    unfold Zfz at hh'
    rw [Bool.and_eq_true] at hh'
    have hlt : lbI s.lasts (gi c 0) < s.lasts.length := of_decide_eq_true hh'.1
    have he : gi (rd s.lasts (lbI s.lasts (gi c 0))) 0 = gi c 0 := of_decide_eq_true hh'.2
    simp only [cond_true, Zp hlt, Int.toNat_natCast, Nat.zero_add, show gl q.v 5 = q.lasts from rfl, hdl, he]
    cases decide (gi (rd s.lasts (lbI s.lasts (gi c 0))) 1 = gi c 1) with
    | true => rfl
    | false =>
      simp only [cond_false]
      cases decide (gi c 1 < gi (rd s.lasts (lbI s.lasts (gi c 0))) 1) with
      | true => rfl
      | false => rfl
  | false =>
    simp only [cond_false, show gl q.v 5 = q.lasts from rfl, hdl]
    rw [Znh hle hl (by decide)]
    rfl
end Go.Eng.R
open Go Go.Eng
namespace Go.Eng.R
set_option maxRecDepth 100000
def BL (l : List V) : Prop := LW Zal l ∧ l.length ≤ 40
theorem BS.bl {l : List V} (h : BS l) : BL l := ⟨h.1, by have := h.2; omega⟩
theorem BL.nil : BL [] := BS.nil.bl
def B_Op (x : V) : Prop := I64 (gi x 0) ∧ BL (gl x 1) ∧ BL (gl x 2) ∧ I64 (gi x 3)
def B_Cmd (x : V) : Prop := I64 (gi x 0) ∧ I64 (gi x 1) ∧ I64 (gi x 2) ∧ BL (gl x 3) ∧ BL (gl x 4) ∧ I64 (gi x 5)
theorem smallI {n : Int} (h0 : -4294967296 ≤ n) (h1 : n ≤ 4294967296) : I64 n := ⟨by omega, by omega⟩
theorem bentOp_O {c : V} (h : Z8 c) : Ok2 (fun x c => Z8 c ∧ B_Op x) (ZdP (Za c)) := by
  unfold ZdP
  refine .of ?_
  refine Ok.bind2 (op_K h 6) ?_
  rintro o c1 ⟨h1, hk, hv, hi, hn⟩
  have hk' : BL (gl o 1) := by
    rcases hk with hk | ⟨hk, -⟩
    · exact (K5_bs hk).bl
    · rw [hk]; exact BL.nil
  have hks : (gl o 1).length ≤ 20 := by
    rcases hk with hk | ⟨hk, -⟩
    · exact (K5_bs hk).2
    · rw [hk]; exact Nat.zero_le _
  refine Ok.bind2 (ZeR h1 6) ?_
  rintro b c2 h2
  cases b with
  | false => exact ⟨_, rfl, h2, hi, hk', hv.bl, hn⟩
  | true =>
  simp only [cond_true]
  refine Ok.bind2 (Zfc h2 4) ?_
  rintro k c3 ⟨h3, -, -, -⟩
  refine .ite (fun _ => ?_) (fun _ => .ite (fun _ => ?_) (fun _ => .ite (fun _ => ?_) (fun _ => ?_)))
  · refine Ok.bind2 (ZhJ h3 (by decide) ⟨⟨by decide, by decide⟩, ⟨by decide, by decide⟩, ⟨by decide, by decide⟩, ⟨by decide, by decide⟩, trivial⟩) ?_
    rintro x c4 ⟨h4, hx⟩
    exact ⟨_, rfl, h4, hx, hk', hv.bl, hn⟩
  · refine .chk (ZdI (by omega) (by omega)) ⟨_, rfl, h3, hi, ⟨LW.snoc hk'.1 (by omega) ⟨by show (0 : Int) ≤ 65; decide, by show (65 : Int) ≤ 255; decide⟩, ?_⟩, hv.bl, hn⟩
    show (gl o 1 ++ [_]).length ≤ 40
    rw [List.length_append, List.length_singleton]; omega
  · refine Ok.bind2 (Zfc h3 2) ?_
    rintro y c4 ⟨h4, y0, -, y1⟩
    have e : IntKind.i64.wrap (20 + y) = 20 + y := ZaK (by omega) (by omega)
    rw [e, decide_eq_true (show (0 : Int) ≤ 20 + y by omega), decide_eq_true (p := True) trivial, ZgN (show (20 + y).toNat * 1 ≤ 140737488355328 by omega) (show (20 + y).toNat ≤ 9223372036854775807 by omega)]
    refine ⟨_, rfl, h4, hi, hk', ⟨LW.rep (by omega) ⟨by show (0 : Int) ≤ 0; decide, by show (0 : Int) ≤ 255; decide⟩, ?_⟩, hn⟩
    show (List.replicate _ _).length ≤ 40
    rw [List.length_replicate]; omega
  · refine Ok.bind2 (ZhJ h3 (by decide) ⟨⟨by decide, by decide⟩, ⟨by decide, by decide⟩, ⟨by decide, by decide⟩, ⟨by decide, by decide⟩, ⟨by decide, by decide⟩, ⟨by decide, by decide⟩, trivial⟩) ?_
    rintro x c4 ⟨h4, hx⟩
    exact ⟨_, rfl, h4, hi, hk', hv.bl, hx⟩
theorem reqs_P {c : V} (h : Z8 c) : Ok2 (fun x c => Z8 c ∧ I64 x) (ZQ (Za c) [(V.int .i64 (-1)), (V.int .i64 0), (V.int .i64 1), (V.int .i64 1000000), (V.int .i64 1000001)]) :=
  ZhJ h (by decide) ⟨⟨by decide, by decide⟩, ⟨by decide, by decide⟩, ⟨by decide, by decide⟩, ⟨by decide, by decide⟩, ⟨by decide, by decide⟩, trivial⟩
theorem Zj0 {c : V} (h : Z8 c) : Ok2 (fun x c => Z8 c ∧ I64 x) (ZQ (Za c) [(V.int .i64 (-2)), (V.int .i64 (-1)), (V.int .i64 3), (V.int .i64 4)]) :=
  ZhJ h (by decide) ⟨⟨by decide, by decide⟩, ⟨by decide, by decide⟩, ⟨by decide, by decide⟩, ⟨by decide, by decide⟩, trivial⟩
theorem Zos {c : V} (h : Z8 c) : Ok2 (fun x c => Z8 c ∧ B_Cmd x) (ZdA (Za c)) := by
  unfold ZdA
  have z : I64 0 := ⟨by decide, by decide⟩
  have m : I64 (-1) := ⟨by decide, by decide⟩
  refine .of ?_
  refine Ok.bind2 (Zfc h 4) ?_
  rintro a c1 ⟨h1, a0, a1, -⟩
  have ai : I64 a := smallI (by omega) (by omega)
  refine Ok.bind2 (Zfc h1 25) ?_
  rintro b c2 ⟨h2, -, -, -⟩
  refine Ok.bind2 (bentOp_O h2) ?_
  rintro o c3 ⟨h3, o1, o2, o3, o4⟩
  refine Ok.bind2 (ZeR h3 8) ?_
  rintro t c4 h4
  refine .ite (fun _ => ?_) (fun _ => ?_)
  · refine Ok.bind2 (ZeR h4 10) ?_
    rintro t c5 h5
    refine .ite (fun _ => ?_) (fun _ => ?_)
    · refine Ok.bind2 (reqs_P h5) ?_
      rintro x c6 ⟨h6, hx⟩
      refine Ok.bind2 (ZeR h6 20) ?_
      rintro t c7 h7
      refine .ite (fun _ => ?_) (fun _ => ⟨_, rfl, h7, m, hx, z, BL.nil, BL.nil, z⟩)
      refine Ok.bind2 (Zj0 h7) ?_
      rintro y c8 ⟨h8, hy⟩
      exact ⟨_, rfl, h8, hy, hx, z, BL.nil, BL.nil, z⟩
    · refine Ok.bind2 (ZeR h5 20) ?_
      rintro t c7 h7
      refine .ite (fun _ => ?_) (fun _ => ⟨_, rfl, h7, m, z, z, BL.nil, BL.nil, z⟩)
      refine Ok.bind2 (Zj0 h7) ?_
      rintro y c8 ⟨h8, hy⟩
      exact ⟨_, rfl, h8, hy, z, z, BL.nil, BL.nil, z⟩
  · refine Ok.bind2 (ZeR h4 10) ?_
    rintro t c5 h5
    refine .ite (fun _ => ?_) (fun _ => ?_)
    · refine Ok.bind2 (reqs_P h5) ?_
      rintro x c6 ⟨h6, hx⟩
      refine Ok.bind2 (ZeR h6 20) ?_
      rintro t c7 h7
      refine .ite (fun _ => ?_) (fun _ => ⟨_, rfl, h7, ai, hx, o1, o2, o3, o4⟩)
      refine Ok.bind2 (Zj0 h7) ?_
      rintro y c8 ⟨h8, hy⟩
      exact ⟨_, rfl, h8, hy, hx, o1, o2, o3, o4⟩
    · refine Ok.bind2 (ZeR h5 20) ?_
      rintro t c7 h7
      refine .ite (fun _ => ?_) (fun _ => ⟨_, rfl, h7, ai, wrI _, o1, o2, o3, o4⟩)
      refine Ok.bind2 (Zj0 h7) ?_
      rintro y c8 ⟨h8, hy⟩
      exact ⟨_, rfl, h8, hy, wrI _, o1, o2, o3, o4⟩
end Go.Eng.R
open Go Go.Eng
namespace Go.Eng.R
set_option maxRecDepth 100000
def kc (r : V) : List Int := Zbm (gl r 0)
theorem Zl2 (a b : V) : neq (gl a 0) (gl b 0) = decide (kc a = kc b) := Zb1 _ _
theorem ZeS (a b : List V) : neq a b = decide (Zbm a = Zbm b) := Zb1 _ _
structure VS (x : Int) (s : SD) : Prop where
  i0 : 0 ≤ s.idx
  i1 : s.idx ≤ 1000000
  l0 : 0 ≤ s.lost
  l1 : s.lost ≤ s.idx
  nr : s.rows.length ≤ 20
  nt : s.tombs.length ≤ 10
  ns : s.sess.length ≤ 8
  nl : s.lasts.length ≤ 4
  rows : ∀ r ∈ s.rows, ZbH (gl r 0) = true ∧ (gl r 1).length ≤ 20 ∧ 1 ≤ gi r 2 ∧ gi r 2 ≤ s.idx
  hold : ∀ r ∈ s.rows, gi r 3 = 0 ∨ gi r 3 = x ∨ ∃ y ∈ s.sess, gi y 0 = gi r 3
  asc : AscN (fun r => gl r 0) s.rows
  tombs : ∀ t ∈ s.tombs, ZbH (gl t 0) = true ∧ 1 ≤ gi t 1 ∧ gi t 1 ≤ s.idx ∧ s.lost ≤ gi t 1
  ord : (s.tombs.map fun t => gi t 1).Pairwise (· ≤ ·)
  nd : (s.rows.map kc ++ s.tombs.map kc).Nodup
  sess : ∀ y ∈ s.sess, 1 ≤ gi y 0 ∧ gi y 0 ≤ s.idx
  sasc : AscI s.sess
  lasts : ∀ l ∈ s.lasts, 0 ≤ gi l 0 ∧ gi l 0 ≤ 3 ∧ 1 ≤ gi l 1 ∧ gi l 1 ≤ 1000000 ∧ 0 ≤ gi l 2 ∧ gi l 2 ≤ 5 ∧ 1 ≤ gi l 3 ∧ gi l 3 ≤ s.idx
  lasc : AscI s.lasts
  wr : ∀ r ∈ s.rows, LW Zal (gl r 0) ∧ LW Zal (gl r 1)
  wt : ∀ t ∈ s.tombs, LW Zal (gl t 0)
theorem pw_of {α β : Type} {l : List α} {f : α → β} {R : β → β → Prop} (h : ∀ i j (hi : i < l.length) (hj : j < l.length), i < j → R (f l[i]) (f l[j])) : (l.map f).Pairwise R := by
  rw [List.pairwise_iff_getElem]
  intro i j hi hj hij
  rw [List.getElem_map, List.getElem_map]
  rw [List.length_map] at hi hj
  exact h i j hi hj hij
theorem pw_at {β : Type} {l : List V} {f : V → β} {R : β → β → Prop} (h : (l.map f).Pairwise R) {i j : Nat} (hj : j < l.length) (hij : i < j) : R (f (rd l i)) (f (rd l j)) := by
  rw [List.pairwise_iff_getElem] at h
  have := h i j (by rw [List.length_map]; omega) (by rw [List.length_map]; omega) hij
  rw [List.getElem_map, List.getElem_map] at this
  rw [ZcB hj, ZcB (show i < l.length by omega)]; exact this
theorem Zot {l : List V} (ha : AscN (fun r => gl r 0) l) : (l.map kc).Nodup := by
  refine pw_of (R := (· ≠ ·)) fun i j hi hj hij e => ?_
  have h1 : nlt (gl (rd l i) 0) (gl (rd l j) 0) = true := ha.lt hij hj
  have h2 := Zh0 h1
  rw [Zl2, ZcB hi, ZcB hj, decide_eq_true e] at h2; cases h2
theorem Zcp {l : List V} {r : V} (h : r ∈ l) : ∃ i, i < l.length ∧ rd l i = r := by
  obtain ⟨i, hi, e⟩ := List.getElem_of_mem h
  exact ⟨i, hi, by rw [ZcB hi]; exact e⟩
theorem fK_neg {l : List V} {k : List V} (h : ¬ 0 ≤ fK l k) : ∀ r ∈ l, kc r ≠ Zbm k := by
  intro r hr e
  obtain ⟨i, hi, e2⟩ := Zcp hr
  unfold fK at h
  cases hf : Zt (fun i => neq (gl (rd l i) 0) k) 0 l.length with
  | some j => rw [hf] at h; exact h (Int.natCast_nonneg j)
  | none =>
    have h9 : neq (gl (rd l i) 0) k = false := firstI_none.1 hf i (Nat.zero_le _) (by omega)
    rw [e2, ZeS, decide_eq_true (show Zbm (gl r 0) = Zbm k from e)] at h9; cases h9
theorem fK_no {l : List V} {k : List V} (h : ∀ r ∈ l, kc r ≠ Zbm k) : ¬ 0 ≤ fK l k := by
  unfold fK
  cases hf : Zt (fun i => neq (gl (rd l i) 0) k) 0 l.length with
  | some j =>
    obtain ⟨-, h1, h2, -⟩ := ZaA hf
    have h2 : neq (gl (rd l j) 0) k = true := h2
    rw [ZeS] at h2
    exact absurd (of_decide_eq_true h2) (h _ (ZE (show j < l.length by omega)))
  | none => decide
theorem fI_ex' {l : List V} {id : Int} (h : ¬ fI l id < 0) : ∃ y ∈ l, gi y 0 = id := by
  unfold fI at h
  cases hf : Zt (fun i => decide (gi (rd l i) 0 = id)) 0 l.length with
  | none => rw [hf] at h; exact absurd (show (-1 : Int) < 0 by decide) h
  | some j =>
    obtain ⟨-, h1, h2, -⟩ := ZaA hf
    exact ⟨_, ZE (show j < l.length by omega), of_decide_eq_true h2⟩
theorem fI_mem {l : List V} {id : Int} (h : ∃ y ∈ l, gi y 0 = id) : ¬ fI l id < 0 := by
  obtain ⟨y, hy, e⟩ := h
  obtain ⟨k, hk, e2⟩ := Zcp hy
  unfold fI
  cases hf : Zt (fun i => decide (gi (rd l i) 0 = id)) 0 l.length with
  | none =>
    have h9 : decide (gi (rd l k) 0 = id) = false := firstI_none.1 hf k (Nat.zero_le _) (by omega)
    rw [e2, decide_eq_true e] at h9; cases h9
  | some j => show ¬ (j : Int) < 0; omega
theorem VS.of {s : SD} (hw : Zew s.v) (h : Zbh s.v = true) : VS 0 s := by
  obtain ⟨a0, a1, a2, a3, a4, a5, a6, a7⟩ := sv_head h
  have g0 : gi s.v 0 = s.idx := rfl
  have g1 : gl s.v 1 = s.rows := rfl
  have g2 : gl s.v 2 = s.tombs := rfl
  have g3 : gi s.v 3 = s.lost := rfl
  have g4 : gl s.v 4 = s.sess := rfl
  have row := fun i (hi : i < s.rows.length) => by
    have := sv_row h (i := i) hi
    unfold Zfx at this
    rw [g0, g1, g4] at this
    simp only [Bool.and_eq_true, Bool.or_eq_true, Bool.not_eq_true', decide_eq_false_iff_not, decide_eq_true_eq] at this
    exact this
  have ha := ZlY (Zne h)
  have tomb := fun i (hi : i < s.tombs.length) => by
    have := sv_tomb h (i := i) hi
    unfold Zdh at this
    rw [g0, g1, g2, g3] at this
    simp only [Bool.and_eq_true, Bool.or_eq_true, Bool.not_eq_true', decide_eq_false_iff_not, decide_eq_true_eq] at this
    exact this
  refine ⟨a0, a1, a2, a3, a4, a5, a6, a7, fun r hr => ?_, fun r hr => ?_, ha, fun t ht => ?_, ?_, ?_, fun y hy => ?_, ZmI h, fun l hl => ?_, ZmJ h, fun r hr => ?_, fun t ht => ?_⟩
  · obtain ⟨i, hi, rfl⟩ := Zcp hr
    obtain ⟨b1, b2, b3, b4, -⟩ := row i hi
    exact ⟨b1, by omega, by omega, by omega⟩
  · obtain ⟨i, hi, rfl⟩ := Zcp hr
    obtain ⟨-, -, -, -, b5, -⟩ := row i hi
    rcases b5 with b5 | b5
    · exact .inl b5
    · exact .inr (.inr (fI_ex' b5))
  · obtain ⟨i, hi, rfl⟩ := Zcp ht
    obtain ⟨b1, b2, b3, b4, b5, b6, -⟩ := tomb i hi
    exact ⟨b1, by omega, by omega, by omega⟩
  · have step : ∀ i, i + 1 < s.tombs.length → gi (rd s.tombs i) 1 ≤ gi (rd s.tombs (i + 1)) 1 := fun i hi => by
      obtain ⟨-, -, -, -, -, -, b7⟩ := tomb (i + 1) hi
      rw [Nat.add_sub_cancel] at b7; omega
    have all : ∀ j i, i ≤ j → j < s.tombs.length → gi (rd s.tombs i) 1 ≤ gi (rd s.tombs j) 1 := by
      intro j
      induction j with
      | zero => intro i hi _; obtain rfl : i = 0 := by omega
                exact Int.le_refl _
      | succ j ih =>
        intro i hi hj
        rcases Nat.lt_or_ge i (j + 1) with c | c
        · exact Int.le_trans (ih i (by omega) (by omega)) (step j hj)
        · obtain rfl : i = j + 1 := by omega
          exact Int.le_refl _
    refine pw_of (f := fun t => gi t 1) fun i j hi hj hij => ?_
    have := all j i (by omega) hj
    rw [ZcB hi, ZcB hj] at this; exact this
  · rw [List.nodup_append]
    refine ⟨Zot ha, ?_, ?_⟩
    · refine pw_of (R := (· ≠ ·)) fun i j hi hj hij e => ?_
      obtain ⟨-, -, b3, -⟩ := tomb j hj
      have b3 : fK s.tombs (gl (rd s.tombs j) 0) = (j : Int) := b3
      unfold fK at b3
      cases hf : Zt (fun i => neq (gl (rd s.tombs i) 0) (gl (rd s.tombs j) 0)) 0 s.tombs.length with
      | none => rw [hf] at b3; have b3 : (-1 : Int) = (j : Int) := b3; omega
      | some m =>
        rw [hf] at b3
        have b3 : (m : Int) = (j : Int) := b3
        obtain ⟨-, -, -, h4⟩ := ZaA hf
        have h5 : neq (gl (rd s.tombs i) 0) (gl (rd s.tombs j) 0) = false := h4 i (Nat.zero_le _) (by omega)
        rw [Zl2, ZcB hi, ZcB hj, decide_eq_true e] at h5; cases h5
    · intro a ha' b hb e
      obtain ⟨r, hr, rfl⟩ := List.mem_map.1 ha'
      obtain ⟨t, ht, rfl⟩ := List.mem_map.1 hb
      obtain ⟨i, hi, rfl⟩ := Zcp ht
      obtain ⟨-, b2, -⟩ := tomb i hi
      have b2 : ¬ 0 ≤ fK s.rows (gl (rd s.tombs i) 0) := b2
      exact fK_neg b2 r hr e
  · obtain ⟨i, hi, rfl⟩ := Zcp hy
    exact sessB_id (Znf h hi)
  · obtain ⟨i, hi, rfl⟩ := Zcp hl
    exact ZnL h hi
  · have := hw.2.1.2 r hr
    exact ⟨this.1, this.2.1⟩
  · exact (hw.2.2.1.2 t ht).1
theorem VS.W {s : SD} (h : VS 0 s) : Zew s.v := by
  have b0 := h.i0; have b1 := h.i1
  have hl := h.l0; have hl1 := h.l1
  have n1 := h.nr; have n2 := h.nt; have n3 := h.ns; have n4 := h.nl
  have sI : ∀ y ∈ s.sess, I64 (gi y 0) := fun y hy => by have := h.sess y hy; exact ⟨by omega, by omega⟩
  refine ⟨⟨by show -9223372036854775808 ≤ s.idx; omega, by show s.idx ≤ 9223372036854775807; omega⟩, ⟨by show s.rows.length ≤ _; omega, fun r hr => ?_⟩, ⟨by show s.tombs.length ≤ _; omega, fun t ht => ?_⟩, ⟨by show -9223372036854775808 ≤ s.lost; omega, by show s.lost ≤ 9223372036854775807; omega⟩, ⟨by show s.sess.length ≤ _; omega, fun y hy => ⟨sI y hy, trivial⟩⟩, ⟨by show s.lasts.length ≤ _; omega, fun l hl => ?_⟩⟩
  · have h1 := h.wr r hr; have h2 := h.rows r hr
    refine ⟨h1.1, h1.2, ⟨by omega, by omega⟩, ?_⟩
    rcases h.hold r hr with e | e | ⟨y, hy, e⟩
    · rw [e]; exact ⟨by decide, by decide⟩
    · rw [e]; exact ⟨by decide, by decide⟩
    · rw [← e]; exact sI y hy
  · have h1 := h.wt t ht; have h2 := h.tombs t ht
    exact ⟨h1, ⟨by omega, by omega⟩⟩
  · have := h.lasts l hl
    exact ⟨⟨by omega, by omega⟩, ⟨by omega, by omega⟩, ⟨by omega, by omega⟩, ⟨by omega, by omega⟩⟩
theorem VS.B {s : SD} (h : VS 0 s) : Zbh s.v = true := by
  have hnd := List.nodup_append.1 h.nd
  unfold Zbh
  simp only [Bool.and_eq_true, List.all_eq_true, List.mem_range]
  refine ⟨decide_eq_true ⟨h.i0, h.i1, h.l0, h.l1, h.nr, h.nt, h.ns, h.nl⟩, fun i hi => ?_, fun i hi => ?_, fun i hi => ?_, fun i hi => ?_⟩
  · have hi : i < s.rows.length := hi
    obtain ⟨b1, b2, b3, b4⟩ := h.rows _ (ZE hi)
    unfold Zfx
    simp only [Bool.and_eq_true, Bool.or_eq_true, Bool.not_eq_true', decide_eq_false_iff_not, decide_eq_true_eq]
    refine ⟨b1, by show ¬ (20 : Int) < (((gl (rd s.rows i) 1).length : Nat) : Int); omega, by show ¬ gi (rd s.rows i) 2 < 1; omega, by show ¬ s.idx < gi (rd s.rows i) 2; omega, ?_, ?_⟩
    · rcases h.hold _ (ZE hi) with e | e | e
      · exact .inl e
      · exact .inl e
      · exact .inr (fI_mem e)
    · by_cases h0 : i = 0
      · exact .inl h0
      · refine .inr ?_
        have := h.asc (i - 1) (by omega)
        rw [show i - 1 + 1 = i by omega] at this; exact this
  · have hi : i < s.tombs.length := hi
    obtain ⟨b1, b2, b3, b4⟩ := h.tombs _ (ZE hi)
    unfold Zdh
    simp only [Bool.and_eq_true, Bool.or_eq_true, Bool.not_eq_true', decide_eq_false_iff_not, decide_eq_true_eq]
    refine ⟨b1, ?_, ?_, by show ¬ gi (rd s.tombs i) 1 < 1; omega, by show ¬ s.idx < gi (rd s.tombs i) 1; omega, by show ¬ gi (rd s.tombs i) 1 < s.lost; omega, ?_⟩
    · exact fK_no fun r hr e => hnd.2.2 _ (List.mem_map_of_mem hr) _ (List.mem_map_of_mem (ZE hi)) e
    · show fK s.tombs (gl (rd s.tombs i) 0) = (i : Int)
      refine Zna (ZhK hi (ZgV _) fun t ht => ?_)
      show neq (gl (rd s.tombs t) 0) (gl (rd s.tombs i) 0) = false
      rw [Zl2]
      exact decide_eq_false (pw_at hnd.2.1 hi ht)
    · by_cases h0 : i = 0
      · exact .inl h0
      · refine .inr ?_
        have := pw_at (f := fun t => gi t 1) h.ord hi (show i - 1 < i by omega)
        show ¬ gi (rd s.tombs i) 1 < gi (rd s.tombs (i - 1)) 1
        omega
  · have hi : i < s.sess.length := hi
    obtain ⟨b1, b2⟩ := h.sess _ (ZE hi)
    unfold ZeH
    simp only [Bool.and_eq_true, Bool.or_eq_true, Bool.not_eq_true', decide_eq_false_iff_not, decide_eq_true_eq]
    refine ⟨by show ¬ gi (rd s.sess i) 0 < 1; omega, by show ¬ s.idx < gi (rd s.sess i) 0; omega, ?_⟩
    by_cases h0 : i = 0
    · exact .inl h0
    · refine .inr ?_
      have := h.sasc (i - 1) (by omega)
      rw [show i - 1 + 1 = i by omega] at this; exact this
  · have hi : i < s.lasts.length := hi
    unfold Ze7
    simp only [Bool.and_eq_true, Bool.or_eq_true, decide_eq_true_eq]
    refine ⟨h.lasts _ (ZE hi), ?_⟩
    by_cases h0 : i = 0
    · exact .inl h0
    · refine .inr ?_
      have := h.lasc (i - 1) (by omega)
      rw [show i - 1 + 1 = i by omega] at this; exact this
end Go.Eng.R
open Go Go.Eng
namespace Go.Eng.R
set_option maxRecDepth 100000
theorem rdRm {l : List V} {i : Nat} (hi : i ≤ l.length) (t : Nat) : rd (ZaP l i) t = rd l (if t < i then t else t + 1) := by
  have h1 : (l.take i).length = i := by rw [List.length_take]; omega
  unfold ZaP rd
  simp only [List.getD]
  by_cases h : t < i
  · rw [List.getElem?_append_left (by omega), List.getElem?_take, if_pos h, if_pos h]
  · rw [List.getElem?_append_right (by omega), h1, List.getElem?_drop, if_neg h, show i + 1 + (t - i) = t + 1 by omega]
theorem Zkl {l : List V} {i t : Nat} {x : V} (hi : i ≤ l.length) (h : i ≤ t) : rd (ZaI l i x) (t + 1) = rd l t := by
  have h1 : (l.take i ++ [x]).length = i + 1 := by rw [List.length_append, List.length_take, List.length_singleton]; omega
  unfold ZaI rd
  simp only [List.getD]
  rw [List.getElem?_append_right (by omega), h1, List.getElem?_drop, show i + (t + 1 - (i + 1)) = t by omega]
def Asc (R : V → V → Prop) (l : List V) : Prop := ∀ i, i + 1 < l.length → R (rd l i) (rd l (i + 1))
theorem Asc.ins {R : V → V → Prop} {l : List V} {p : Nat} {x : V} (h : Asc R l) (hp : p ≤ l.length) (h1 : 0 < p → R (rd l (p - 1)) x) (h2 : p < l.length → R x (rd l p)) : Asc R (ZaI l p x) := by
  intro i hi
  rw [Zd5 hp] at hi
  rcases Nat.lt_trichotomy i p with c | c | c
  · rw [Zkk hp c]
    rcases Nat.lt_or_ge (i + 1) p with d | d
    · rw [Zkk hp d]; exact h i (by omega)
    · obtain rfl : p = i + 1 := by omega
      rw [ZjV hp]; have := h1 (by omega); rwa [Nat.add_sub_cancel] at this
  · subst c
    rw [ZjV hp, Zkl hp (Nat.le_refl _)]; exact h2 (by omega)
  · obtain ⟨j, rfl⟩ : ∃ j, i = j + 1 := ⟨i - 1, by omega⟩
    rw [Zkl hp (show p ≤ j by omega), Zkl hp (show p ≤ j + 1 by omega)]
    exact h j (by omega)
theorem Asc.rm {R : V → V → Prop} {l : List V} {p : Nat} (h : Asc R l) (hp : p < l.length) (ht : ∀ a b c, R a b → R b c → R a c) : Asc R (ZaP l p) := by
  intro i hi
  rw [ZdY hp] at hi
  rw [rdRm (Nat.le_of_lt hp), rdRm (Nat.le_of_lt hp)]
  by_cases c : i < p
  · rw [if_pos c]
    by_cases d : i + 1 < p
    · rw [if_pos d]; exact h i (by omega)
    · rw [if_neg d]; exact ht _ _ _ (h i (by omega)) (h (i + 1) (by omega))
  · rw [if_neg c, if_neg (by omega)]; exact h (i + 1) (by omega)
theorem Asc.set {R : V → V → Prop} {l : List V} {p : Nat} {x : V} (h : Asc R l) (h1 : ∀ a, R a (rd l p) → R a x) (h2 : ∀ a, R (rd l p) a → R x a) : Asc R (l.set p x) := by
  intro i hi
  rw [List.length_set] at hi
  by_cases c : i = p
  · subst c
    rw [ZbD (by omega), ZdC (by omega)]; exact h2 _ (h i hi)
  · rw [ZdC c]
    by_cases d : i + 1 = p
    · subst d; rw [ZbD (by omega)]; exact h1 _ (h i hi)
    · rw [ZdC d]; exact h i hi
theorem Zou (l : List V) (x : V) : ZaI l l.length x = l ++ [x] := by unfold ZaI; rw [List.take_length, List.drop_length, List.append_nil]
theorem Asc.snoc {R : V → V → Prop} {l : List V} {x : V} (h : Asc R l) (h1 : ∀ y ∈ l, R y x) : Asc R (l ++ [x]) := by
  rw [← Zou]
  exact h.ins (Nat.le_refl _) (fun h0 => h1 _ (ZE (by omega))) (fun h0 => absurd h0 (Nat.lt_irrefl _))
theorem asc_tr : ∀ a b c : V, nlt (gl a 0) (gl b 0) = true → nlt (gl b 0) (gl c 0) = true → nlt (gl a 0) (gl c 0) = true := fun _ _ _ h1 h2 => ZhG h1 h2
theorem ascI_few : ∀ {l : List V}, AscI l → (∀ x ∈ l, 0 ≤ gi x 0 ∧ gi x 0 ≤ 3) → l.length ≤ 4 := by
  intro l h hb
  have key : ∀ i, i < l.length → (i : Int) ≤ gi (rd l i) 0 := by
    intro i
    induction i with
    | zero => intro hi; exact (hb _ (ZE hi)).1
    | succ i ih =>
      intro hi
      have h1 := ih (by omega)
      have h2 := h i hi
      omega
  rcases Nat.lt_or_ge 4 l.length with c | c
  · have h1 := key 4 c
    have h2 := (hb _ (ZE c)).2
    omega
  · exact c
theorem set_perm {l : List V} {i : Nat} (hi : i < l.length) (x : V) : (l.set i x).Perm (x :: ZaP l i) := by
  have h := Zgn (l := l.set i x) (by rw [List.length_set]; exact hi)
  rw [ZbD hi] at h
  have e : ZaP (l.set i x) i = ZaP l i := by
    unfold ZaP
    rw [List.take_set_of_le (Nat.le_refl _), List.drop_set_of_lt (Nat.lt_succ_self _)]
  rwa [e] at h
theorem VS.ndT {x : Int} {s : SD} (h : VS x s) : (s.tombs.map kc).Nodup := (List.nodup_append.1 h.nd).2.1
theorem VS.bury {x : Int} {s : SD} (h : VS x s) (h1 : 1 ≤ s.idx) {i : Nat} (hi : i < s.rows.length) : VS x (s.bury i) := by
  have hr := h.rows _ (ZE hi)
  have hl := h.l1
  have hT : ∀ t ∈ s.tombs ++ [ZdB (gl (rd s.rows i) 0) s.idx], ZbH (gl t 0) = true ∧ 1 ≤ gi t 1 ∧ gi t 1 ≤ s.idx ∧ s.lost ≤ gi t 1 := fun t ht => by
    rcases List.mem_append.1 ht with ht | ht
    · exact h.tombs t ht
    · rw [List.mem_singleton.1 ht]
      exact ⟨hr.1, h1, Int.le_refl _, h.l1⟩
  have hO : ((s.tombs ++ [ZdB (gl (rd s.rows i) 0) s.idx]).map fun t => gi t 1).Pairwise (· ≤ ·) := by
    rw [List.map_append, List.pairwise_append]
    refine ⟨h.ord, List.pairwise_singleton _ _, fun a ha b hb => ?_⟩
    obtain ⟨t, ht, rfl⟩ := List.mem_map.1 ha
    rw [List.map_singleton, List.mem_singleton] at hb
    subst hb
    exact (h.tombs t ht).2.2.1
  have hN : ((ZaP s.rows i).map kc ++ (s.tombs ++ [ZdB (gl (rd s.rows i) 0) s.idx]).map kc).Nodup := by
    have hp : (s.rows.map kc ++ s.tombs.map kc).Perm ((ZaP s.rows i).map kc ++ (s.tombs ++ [ZdB (gl (rd s.rows i) 0) s.idx]).map kc) := by
      have h1 : (s.rows.map kc).Perm (kc (rd s.rows i) :: (ZaP s.rows i).map kc) := (Zgn hi).map kc
      refine (h1.append_right _).trans ?_
      rw [List.map_append, List.map_singleton, show kc (ZdB (gl (rd s.rows i) 0) s.idx) = kc (rd s.rows i) from rfl, ← List.append_assoc]
      exact (List.perm_append_singleton _ _).symm
    exact hp.nodup h.nd
  have hW : ∀ t ∈ s.tombs ++ [ZdB (gl (rd s.rows i) 0) s.idx], LW Zal (gl t 0) := fun t ht => by
    rcases List.mem_append.1 ht with ht | ht
    · exact h.wt t ht
    · rw [List.mem_singleton.1 ht]; exact (h.wr _ (ZE hi)).1
  have hlen : (s.tombs ++ [ZdB (gl (rd s.rows i) 0) s.idx]).length = s.tombs.length + 1 := by rw [List.length_append, List.length_singleton]
  have hrl := ZdY hi
  have hnr := h.nr
  unfold SD.bury
  by_cases hd : 10 < s.tombs.length + 1
  · rw [decide_eq_true hd]
    generalize s.tombs ++ [ZdB (gl (rd s.rows i) 0) s.idx] = T at *
    have hnt := h.nt
    cases T with
    | nil => simp at hlen
    | cons t0 T =>
      have e0 : rd (t0 :: T) 0 = t0 := rfl
      have hT0 := hT t0 (List.mem_cons_self ..)
      have hO' := List.pairwise_cons.1 (show (gi t0 1 :: T.map fun t => gi t 1).Pairwise (· ≤ ·) from hO)
      have l0 := h.l0
      refine ⟨h.i0, h.i1, ?_, ?_, by show (ZaP s.rows i).length ≤ 20; omega, ?_, h.ns, h.nl, fun r hr => h.rows r (ZbI hr), fun r hr => h.hold r (ZbI hr), Asc.rm (R := fun a b => nlt (gl a 0) (gl b 0) = true) h.asc hi asc_tr, fun t ht => ?_, hO'.2, ?_, h.sess, h.sasc, h.lasts, h.lasc, fun r hr => h.wr r (ZbI hr), fun t ht => hW t (List.mem_cons_of_mem _ ht)⟩
      · show 0 ≤ gi (rd (t0 :: T) 0) 1; rw [e0]; omega
      · show gi (rd (t0 :: T) 0) 1 ≤ s.idx; rw [e0]; omega
      · show T.length ≤ 10; rw [List.length_cons] at hlen; omega
      · have ht : t ∈ T := ht
        have := hT t (List.mem_cons_of_mem _ ht)
        refine ⟨this.1, this.2.1, this.2.2.1, ?_⟩
        show gi (rd (t0 :: T) 0) 1 ≤ gi t 1
        rw [e0]; exact hO'.1 _ (List.mem_map_of_mem ht)
      · show ((ZaP s.rows i).map kc ++ T.map kc).Nodup
        rw [List.nodup_append] at hN ⊢
        refine ⟨hN.1, (List.nodup_cons.1 (show (kc t0 :: T.map kc).Nodup from hN.2.1)).2, fun a ha b hb => hN.2.2 a ha b (List.mem_cons_of_mem _ hb)⟩
  · rw [decide_eq_false hd]
    exact ⟨h.i0, h.i1, h.l0, h.l1, by show (ZaP s.rows i).length ≤ 20; omega, by show (s.tombs ++ [_]).length ≤ 10; omega, h.ns, h.nl, fun r hr => h.rows r (ZbI hr), fun r hr => h.hold r (ZbI hr), Asc.rm (R := fun a b => nlt (gl a 0) (gl b 0) = true) h.asc hi asc_tr, hT, hO, hN, h.sess, h.sasc, h.lasts, h.lasc, fun r hr => h.wr r (ZbI hr), hW⟩
theorem VS.setRow {x : Int} {s : SD} (h : VS x s) {j : Nat} (hj : j < s.rows.length) {v : List V} {t o : Int} (hv : v.length ≤ 20) (hw : LW Zal v) (ht : 1 ≤ t ∧ t ≤ s.idx) (ho : o = 0 ∨ o = x ∨ ∃ y ∈ s.sess, gi y 0 = o) :
    VS x { s with rows := s.rows.set j (ZbA (gl (rd s.rows j) 0) v t o) } := by
  have hr := h.rows _ (ZE hj)
  have hwj := h.wr _ (ZE hj)
  refine ⟨h.i0, h.i1, h.l0, h.l1, by show (s.rows.set j _).length ≤ 20; rw [List.length_set]; exact h.nr, h.nt, h.ns, h.nl, fun r hr' => ?_, fun r hr' => ?_, ?_, h.tombs, h.ord, ?_, h.sess, h.sasc, h.lasts, h.lasc, fun r hr' => ?_, h.wt⟩
  · rcases List.mem_or_eq_of_mem_set hr' with hr' | hr'
    · exact h.rows r hr'
    · subst hr'; exact ⟨hr.1, hv, ht.1, ht.2⟩
  · rcases List.mem_or_eq_of_mem_set hr' with hr' | hr'
    · exact h.hold r hr'
    · subst hr'; exact ho
  · exact Asc.set (R := fun a b => nlt (gl a 0) (gl b 0) = true) h.asc (fun a ha => ha) (fun a ha => ha)
  · show ((s.rows.set j (ZbA (gl (rd s.rows j) 0) v t o)).map kc ++ s.tombs.map kc).Nodup
    have e : (s.rows.set j (ZbA (gl (rd s.rows j) 0) v t o)).map kc = s.rows.map kc := by
      rw [List.map_set]
      have : kc (ZbA (gl (rd s.rows j) 0) v t o) = (s.rows.map kc)[j]'(by rw [List.length_map]; exact hj) := by rw [List.getElem_map, ← ZcB hj]; rfl
      rw [this, List.set_getElem_self]
    rw [e]; exact h.nd
  · rcases List.mem_or_eq_of_mem_set hr' with hr' | hr'
    · exact h.wr r hr'
    · subst hr'; exact ⟨hwj.1, hw⟩
theorem VS.put {x : Int} {s : SD} (h : VS x s) (h1 : 1 ≤ s.idx) {key val : List V} (hk : ZbH key = true) (hv : val.length ≤ 20) (hwk : LW Zal key) (hwv : LW Zal val) : VS x (s.put key val).2 := by
  unfold SD.put
  have hf := ZgX (k := key) h.asc
  cases hff : Zt (fun i => neq (gl (rd s.rows i) 0) key) 0 s.rows.length with
  | some j =>
    have hj := ZjU hff
    exact h.setRow hj hv hwv ⟨h1, Int.le_refl _⟩ (h.hold _ (ZE hj))
  | none =>
    by_cases h20 : 20 ≤ s.rows.length
    · rw [decide_eq_true h20]; exact h
    rw [decide_eq_false h20]
    have hle := Zgk (fun r => gl r 0) s.rows key
    have hsp := Zfu h.asc key
    have hno : ∀ r ∈ s.rows, kc r ≠ Zbm key := fun r hr e => by
      obtain ⟨i, hi, rfl⟩ := Zcp hr
      have h9 : neq (gl (rd s.rows i) 0) key = false := firstI_none.1 hff i (Nat.zero_le _) (by omega)
      rw [ZeS, decide_eq_true (show Zbm (gl (rd s.rows i) 0) = Zbm key from e)] at h9; cases h9
    have hA : Asc (fun a b => nlt (gl a 0) (gl b 0) = true) (ZaI s.rows (Zd6 s.rows key) (ZbA key val s.idx 0)) := by
      rw [ZgW h.asc]
      refine Asc.ins (R := fun a b => nlt (gl a 0) (gl b 0) = true) h.asc hle (fun h0 => ?_) (fun h0 => ?_)
      · have e : nlt (gl (rd s.rows (lbN (fun r => gl r 0) s.rows key - 1)) 0) key = _ := hsp (lbN (fun r => gl r 0) s.rows key - 1) (by omega)
        show nlt _ key = true
        rw [e, decide_eq_true (by omega)]
      · have e : nlt (gl (rd s.rows (lbN (fun r => gl r 0) s.rows key)) 0) key = _ := hsp _ h0
        rw [decide_eq_false (Nat.lt_irrefl _)] at e
        have e2 : neq (gl (rd s.rows (lbN (fun r => gl r 0) s.rows key)) 0) key = false := firstI_none.1 hff _ (Nat.zero_le _) (by omega)
        exact nlt_tri e e2
    have hl := Zd5 (x := ZbA key val s.idx 0) (ZnJ s.rows key)
    have hnr := h.nr
    have hpr : ((ZaI s.rows (Zd6 s.rows key) (ZbA key val s.idx 0)).map kc).Perm (Zbm key :: s.rows.map kc) := (ZiM _ _ _).map kc
    have rest : ∀ T : List V, (∀ t ∈ T, t ∈ s.tombs) → (T.map kc).Sublist (s.tombs.map kc) → (T.map fun t => gi t 1).Pairwise (· ≤ ·) → T.length ≤ 10 → (∀ t ∈ T, kc t ≠ Zbm key) → VS x { s with rows := ZaI s.rows (Zd6 s.rows key) (ZbA key val s.idx 0), tombs := T } := fun T hT hS hO hTl hTk => by
      refine ⟨h.i0, h.i1, h.l0, h.l1, by show (ZaI s.rows _ _).length ≤ 20; omega, hTl, h.ns, h.nl, fun r hr => ?_, fun r hr => ?_, hA, fun t ht => h.tombs t (hT t ht), hO, ?_, h.sess, h.sasc, h.lasts, h.lasc, fun r hr => ?_, fun t ht => h.wt t (hT t ht)⟩
      · rcases ZfP hr with rfl | hr
        · exact ⟨hk, hv, h1, Int.le_refl _⟩
        · exact h.rows r hr
      · rcases ZfP hr with rfl | hr
        · exact .inl rfl
        · exact h.hold r hr
      · refine (hpr.append_right _).symm.nodup ?_
        rw [List.cons_append, List.nodup_cons]
        refine ⟨fun hm => ?_, ?_⟩
        · rcases List.mem_append.1 hm with hm | hm
          · obtain ⟨r, hr, e⟩ := List.mem_map.1 hm; exact hno r hr e
          · obtain ⟨t, ht, e⟩ := List.mem_map.1 hm; exact hTk t ht e
        · exact (List.Sublist.append (List.Sublist.refl _) hS).nodup h.nd
      · rcases ZfP hr with rfl | hr
        · exact ⟨hwk, hwv⟩
        · exact h.wr r hr
    cases hft : Zt (fun i => neq (gl (rd s.tombs i) 0) key) 0 s.tombs.length with
    | none =>
      refine rest s.tombs (fun t ht => ht) (List.Sublist.refl _) h.ord h.nt fun t ht e => ?_
      obtain ⟨i, hi, rfl⟩ := Zcp ht
      have h9 : neq (gl (rd s.tombs i) 0) key = false := firstI_none.1 hft i (Nat.zero_le _) (by omega)
      rw [ZeS, decide_eq_true (show Zbm (gl (rd s.tombs i) 0) = Zbm key from e)] at h9; cases h9
    | some j =>
      have hj := ZjU hft
      have hq : neq (gl (rd s.tombs j) 0) key = true := (ZaA hft).2.2.1
      rw [ZeS] at hq
      have hq : kc (rd s.tombs j) = Zbm key := of_decide_eq_true hq
      have hsub : (ZaP s.tombs j).Sublist s.tombs := by
        have : (s.tombs.take j ++ s.tombs.drop (j + 1)).Sublist (s.tombs.take j ++ s.tombs.drop j) := List.Sublist.append (List.Sublist.refl _) (List.drop_sublist_drop_left _ (Nat.le_succ _))
        rwa [List.take_append_drop] at this
      have hnt := h.nt
      refine rest (ZaP s.tombs j) (fun t ht => ZbI ht) (hsub.map kc) (List.Pairwise.sublist (hsub.map _) h.ord) (by rw [ZdY hj]; omega) fun t ht e => ?_
      have hp := (Zgn hj).map kc
      have hn := hp.nodup h.ndT
      rw [List.map_cons, List.nodup_cons] at hn
      exact hn.1 (by rw [hq, ← e]; exact List.mem_map_of_mem ht)
end Go.Eng.R
open Go Go.Eng
namespace Go.Eng.R
set_option maxRecDepth 100000
theorem VS.shutL {id : Int} (h0 : id ≠ 0) (del : Bool) : ∀ (n k : Nat) (s : SD), VS id s → 1 ≤ s.idx → (∀ i, i < k → i < s.rows.length → gi (rd s.rows i) 3 ≠ id) → s.rows.length ≤ n + k →
    VS id (SD.shutL id del n k s) ∧ (∀ r ∈ (SD.shutL id del n k s).rows, gi r 3 ≠ id)
  | 0, k, s, h, h1, hk, hn => ⟨h, fun r hr => by
      obtain ⟨i, hi, rfl⟩ := Zcp hr
      have hi : i < s.rows.length := hi
      exact hk i (by omega) hi⟩
  | n + 1, k, s, h, h1, hk, hn => by
    rw [SD.shutL]
    by_cases hlt : k < s.rows.length
    case neg =>
      rw [dF hlt]
      exact ⟨h, fun r hr => by obtain ⟨i, hi, rfl⟩ := Zcp hr; have hi : i < s.rows.length := hi; exact hk i (by omega) hi⟩
    rw [dT hlt]
    by_cases hh : gi (rd s.rows k) 3 = id
    case neg =>
      rw [dF hh]
      refine VS.shutL h0 del n (k + 1) s h h1 (fun i hi hi2 => ?_) (by omega)
      rcases Nat.lt_or_ge i k with c | c
      · exact hk i c hi2
      · obtain rfl : i = k := by omega
        exact hh
    rw [dT hh]
    cases del with
    | true =>
      simp only [Bool.not_true, cond_false, cond_true]
      have hl := (ZjY hlt h.nt).1
      have hi' : (s.bury k).idx = s.idx := by unfold SD.bury; cases decide (10 < s.tombs.length + 1) <;> rfl
      have hr' : (s.bury k).rows = ZaP s.rows k := by unfold SD.bury; cases decide (10 < s.tombs.length + 1) <;> rfl
      refine VS.shutL h0 true n k (s.bury k) (h.bury h1 hlt) (by omega) (fun i hi hi2 => ?_) (by omega)
      rw [hr', rdRm (Nat.le_of_lt hlt), if_pos hi]
      exact hk i hi (by omega)
    | false =>
      simp only [Bool.not_true, cond_false]
      have hr := h.rows _ (ZE hlt)
      refine VS.shutL h0 false n (k + 1) _ (h.setRow hlt hr.2.1 (h.wr _ (ZE hlt)).2 ⟨h1, Int.le_refl _⟩ (.inl rfl)) h1 (fun i hi hi2 => ?_) (by show (s.rows.set k _).length ≤ _; rw [List.length_set]; omega)
      show gi (rd (s.rows.set k _) i) 3 ≠ id
      by_cases c : i = k
      · subst c; rw [ZbD hlt]; exact fun e => h0 e.symm
      · rw [ZdC c]; exact hk i (by omega) (by have : (s.rows.set k (ZbA (gl (rd s.rows k) 0) (gl (rd s.rows k) 1) s.idx 0)).length = _ := List.length_set; omega)
theorem ZfQ (id : Int) (del : Bool) : ∀ (n k : Nat) (s : SD), (SD.shutL id del n k s).idx = s.idx
  | 0, _, _ => rfl
  | n + 1, k, s => by
    rw [SD.shutL]
    cases decide (k < s.rows.length) with
    | false => rfl
    | true =>
      cases decide (gi (rd s.rows k) 3 = id) with
      | false => exact ZfQ id del n (k + 1) s
      | true =>
        cases del with
        | true => exact (ZfQ id true n k (s.bury k)).trans (by unfold SD.bury; cases decide (10 < s.tombs.length + 1) <;> rfl)
        | false => exact ZfQ id false n (k + 1) _
theorem Ze9 (id : Int) (del : Bool) : ∀ (n k : Nat) (s : SD), (SD.shutL id del n k s).sess = s.sess
  | 0, _, _ => rfl
  | n + 1, k, s => by
    rw [SD.shutL]
    cases decide (k < s.rows.length) with
    | false => rfl
    | true =>
      cases decide (gi (rd s.rows k) 3 = id) with
      | false => exact Ze9 id del n (k + 1) s
      | true =>
        cases del with
        | true => exact (Ze9 id true n k (s.bury k)).trans (by unfold SD.bury; cases decide (10 < s.tombs.length + 1) <;> rfl)
        | false => exact Ze9 id false n (k + 1) _
theorem VS.lose {s : SD} (h : VS 0 s) {i : Nat} (hi : i < s.sess.length) : VS (gi (rd s.sess i) 0) { s with sess := ZaP s.sess i } := by
  have hn := h.ns
  refine ⟨h.i0, h.i1, h.l0, h.l1, h.nr, h.nt, by show (ZaP s.sess i).length ≤ 8; rw [ZdY hi]; omega, h.nl, h.rows, fun r hr => ?_, h.asc, h.tombs, h.ord, h.nd, fun y hy => h.sess y (ZbI hy), Asc.rm (R := fun a b => gi a 0 < gi b 0) h.sasc hi (fun _ _ _ a b => Int.lt_trans a b), h.lasts, h.lasc, h.wr, h.wt⟩
  rcases h.hold r hr with e | e | ⟨y, hy, e⟩
  · exact .inl e
  · exact .inl e
  · rcases List.mem_cons.1 ((Zgn hi).mem_iff.1 hy) with rfl | hy
    · exact .inr (.inl e.symm)
    · exact .inr (.inr ⟨y, hy, e⟩)
theorem VS.keep {x : Int} {s : SD} (h : VS x s) (hr : ∀ r ∈ s.rows, gi r 3 ≠ x) : VS 0 s :=
  ⟨h.i0, h.i1, h.l0, h.l1, h.nr, h.nt, h.ns, h.nl, h.rows, fun r hr' => by
    rcases h.hold r hr' with e | e | e
    · exact .inl e
    · exact absurd e (hr r hr')
    · exact .inr (.inr e), h.asc, h.tombs, h.ord, h.nd, h.sess, h.sasc, h.lasts, h.lasc, h.wr, h.wt⟩
theorem VS.shut {s : SD} (h : VS 0 s) (h1 : 1 ≤ s.idx) {i : Nat} (hi : i < s.sess.length) : VS 0 (s.shut i) ∧ (∀ r ∈ (s.shut i).rows, gi r 3 ≠ gi (rd s.sess i) 0) ∧ (s.shut i).sess = ZaP s.sess i := by
  have hid := h.sess _ (ZE hi)
  obtain ⟨a, b⟩ := VS.shutL (id := gi (rd s.sess i) 0) (by omega) (gb (rd s.sess i) 1) s.rows.length 0 _ (h.lose hi) h1 (fun i hi => absurd hi (Nat.not_lt_zero _)) (Nat.le_refl _)
  exact ⟨a.keep b, b, Ze9 _ _ _ _ _⟩
theorem VS.hold' {s : SD} (h : VS 0 s) {key : List V} {n : Int} (hn : ∃ y ∈ s.sess, gi y 0 = n) : VS 0 (s.hold key n) := by
  unfold SD.hold
  cases hf : Zt (fun i => neq (gl (rd s.rows i) 0) key) 0 s.rows.length with
  | none => exact h
  | some j =>
    have hj := ZjU hf
    have hr := h.rows _ (ZE hj)
    exact h.setRow hj hr.2.1 (h.wr _ (ZE hj)).2 hr.2.2 (.inr (.inr hn))
theorem ZiO (s : SD) (key val : List V) : (s.put key val).2.sess = s.sess ∧ (s.put key val).2.idx = s.idx := by
  unfold SD.put
  cases Zt (fun i => neq (gl (rd s.rows i) 0) key) 0 s.rows.length with
  | some j => exact ⟨rfl, rfl⟩
  | none => cases decide (20 ≤ s.rows.length) <;> exact ⟨rfl, rfl⟩
structure OpV (k : Int) (ky vl : List V) (n : Int) : Prop where
  kk : 0 ≤ k ∧ k ≤ 7
  key : opK k → ZbH ky = true
  nk : ¬ opK k → ky.length = 0
  val : vl.length ≤ 20
  wk : LW Zal ky
  wv : LW Zal vl
theorem Zj1 {s : SD} {n : Int} {i : Nat} (h : s.sessAt n = some i) : i < s.sess.length ∧ gi (rd s.sess i) 0 = n := by
  unfold SD.sessAt at h
  obtain ⟨-, h1, h2, -⟩ := ZaA h
  exact ⟨by omega, of_decide_eq_true h2⟩
theorem VS.do' {s : SD} (h : VS 0 s) (h1 : 1 ≤ s.idx) (hss : ∀ y ∈ s.sess, gi y 0 < s.idx) {k : Int} {key val : List V} {n : Int} (ho : OpV k key val n) :
    VS 0 (s.do' k key val n).2 ∧ 0 ≤ (s.do' k key val n).1 ∧ (s.do' k key val n).1 ≤ 4 ∧ (s.do' k key val n).2.idx = s.idx ∧ ((s.do' k key val n).1 ≠ 0 → (s.do' k key val n).2 = s) := by
  have z4 : (0 : Int) ≤ 4 ∧ (4 : Int) ≤ 4 := by decide
  have same : ∀ c : Int, 0 ≤ c → c ≤ 4 → VS 0 (c, s).2 ∧ 0 ≤ (c, s).1 ∧ (c, s).1 ≤ 4 ∧ (c, s).2.idx = s.idx ∧ ((c, s).1 ≠ 0 → (c, s).2 = s) := fun c a b => ⟨h, a, b, rfl, fun _ => rfl⟩
  have well : ∀ s' : SD, VS 0 s' → s'.idx = s.idx → VS 0 ((0 : Int), s').2 ∧ 0 ≤ ((0 : Int), s').1 ∧ ((0 : Int), s').1 ≤ 4 ∧ ((0 : Int), s').2.idx = s.idx ∧ (((0 : Int), s').1 ≠ 0 → ((0 : Int), s').2 = s) := fun s' a e => ⟨a, Int.le_refl _, by show (0 : Int) ≤ 4; decide, e, fun c => absurd rfl c⟩
  have hpf : (s.put key val).1 = false → (s.put key val).2 = s := fun e => by
    revert e
    unfold SD.put
    cases Zt (fun i => neq (gl (rd s.rows i) 0) key) 0 s.rows.length with
    | some j => intro e; cases e
    | none => cases decide (20 ≤ s.rows.length) with
      | true => intro _; rfl
      | false => intro e; cases e
  have hps : opK k → VS 0 (s.puts key val).2 ∧ 0 ≤ (s.puts key val).1 ∧ (s.puts key val).1 ≤ 4 ∧ (s.puts key val).2.idx = s.idx ∧ ((s.puts key val).1 ≠ 0 → (s.puts key val).2 = s) := fun hk => by
    have hp := h.put h1 (ho.key hk) ho.val ho.wk ho.wv
    refine ⟨hp, ?_, ?_, (ZiO s key val).2, ?_⟩
    · show 0 ≤ Zfy (s.put key val).1; unfold Zfy; cases (s.put key val).1 <;> decide
    · show Zfy (s.put key val).1 ≤ 4; unfold Zfy; cases (s.put key val).1 <;> decide
    · intro hc
      refine hpf ?_
      cases hb : (s.put key val).1 with
      | false => rfl
      | true => exact absurd (show Zfy (s.put key val).1 = 0 by rw [hb]; rfl) hc
  unfold SD.do'
  by_cases h1' : k = 1
  · rw [dT h1']; exact hps (.inl h1')
  rw [dF h1']
  by_cases h2 : k = 2
  · rw [dT h2]
    simp only [cond_false, cond_true]
    cases decide ((match s.look key with | some j => gi (rd s.rows j) 2 | none => 0) = n) with
    | true => exact hps (.inr (.inl h2))
    | false => exact same 3 (by decide) (by decide)
  rw [dF h2]
  by_cases h3 : k = 3
  · rw [dT h3]
    simp only [cond_false, cond_true]
    cases hl : s.look key with
    | none => exact same 1 (by decide) (by decide)
    | some j => exact well _ (h.bury h1 (Znd hl)) (by unfold SD.bury; cases decide (10 < s.tombs.length + 1) <;> rfl)
  rw [dF h3]
  by_cases h4 : k = 4
  · rw [dT h4]
    simp only [cond_false, cond_true]
    by_cases h8 : 8 ≤ s.sess.length
    · rw [dT h8]; exact same 4 (by decide) (by decide)
    · rw [dF h8]
      refine well _ ⟨h.i0, h.i1, h.l0, h.l1, h.nr, h.nt, by show (s.sess ++ [_]).length ≤ 8; rw [List.length_append, List.length_singleton]; omega, h.nl, h.rows, fun r hr => ?_, h.asc, h.tombs, h.ord, h.nd, fun y hy => ?_, Asc.snoc (R := fun a b => gi a 0 < gi b 0) h.sasc hss, h.lasts, h.lasc, h.wr, h.wt⟩ rfl
      · rcases h.hold r hr with e | e | ⟨y, hy, e⟩
        · exact .inl e
        · exact .inl e
        · exact .inr (.inr ⟨y, List.mem_append_left _ hy, e⟩)
      · rcases List.mem_append.1 hy with hy | hy
        · exact h.sess y hy
        · rw [List.mem_singleton.1 hy]; exact ⟨h1, Int.le_refl _⟩
  rw [dF h4]
  by_cases h5 : k = 5
  · rw [dT h5]
    simp only [cond_false, cond_true]
    cases hf : s.sessAt n with
    | none => exact same 1 (by decide) (by decide)
    | some i =>
      have hi := (Zj1 hf).1
      exact well _ (h.shut h1 hi).1 (ZfQ _ _ _ _ _)
  rw [dF h5]
  by_cases h6 : k = 6
  · rw [dT h6]
    simp only [cond_false, cond_true]
    cases hf : s.sessAt n with
    | none => exact same 1 (by decide) (by decide)
    | some i =>
      obtain ⟨hi, hin⟩ := Zj1 hf
      have hp := hps (.inr (.inr (.inr (.inl h6))))
      have fin : VS 0 (bif (s.put key val).1 then ((0 : Int), (s.put key val).2.hold key n) else (4, (s.put key val).2)).2 ∧ 0 ≤ (bif (s.put key val).1 then ((0 : Int), (s.put key val).2.hold key n) else (4, (s.put key val).2)).1 ∧ (bif (s.put key val).1 then ((0 : Int), (s.put key val).2.hold key n) else (4, (s.put key val).2)).1 ≤ 4 ∧ (bif (s.put key val).1 then ((0 : Int), (s.put key val).2.hold key n) else (4, (s.put key val).2)).2.idx = s.idx ∧ ((bif (s.put key val).1 then ((0 : Int), (s.put key val).2.hold key n) else (4, (s.put key val).2)).1 ≠ 0 → (bif (s.put key val).1 then ((0 : Int), (s.put key val).2.hold key n) else (4, (s.put key val).2)).2 = s) := by
        cases hb : (s.put key val).1 with
        | true =>
          refine well _ (VS.hold' hp.1 ⟨rd s.sess i, ?_, hin⟩) ?_
          · show rd s.sess i ∈ (s.put key val).2.sess
            rw [(ZiO s key val).1]; exact ZE hi
          · refine Eq.trans ?_ (ZiO s key val).2
            unfold SD.hold
            cases Zt (fun i => neq (gl (rd (s.put key val).2.rows i) 0) key) 0 (s.put key val).2.rows.length <;> rfl
        | false => rw [hpf hb]; exact same 4 (by decide) (by decide)
      cases s.look key with
      | none => exact fin
      | some j =>
        simp only []
        cases !decide (gi (rd s.rows j) 3 = 0) && !decide (gi (rd s.rows j) 3 = n) with
        | true => exact same 2 (by decide) (by decide)
        | false => exact fin
  rw [dF h6]
  by_cases h7 : k = 7
  · rw [dT h7]
    simp only [cond_false, cond_true]
    cases hl : s.look key with
    | none => exact same 1 (by decide) (by decide)
    | some j =>
      have hj := Znd hl
      have hr := h.rows _ (ZE hj)
      simp only []
      cases decide (gi (rd s.rows j) 3 = n) with
      | true => exact well _ (h.setRow hj hr.2.1 (h.wr _ (ZE hj)).2 ⟨h1, Int.le_refl _⟩ (.inl rfl)) rfl
      | false => exact same 1 (by decide) (by decide)
  rw [dF h7]
  exact same 0 (by decide) (by decide)
def CmdV (c : V) : Prop := gi c 0 < 0 ∨ (0 ≤ gi c 0 ∧ gi c 0 ≤ 3 ∧ 1 ≤ gi c 1 ∧ gi c 1 ≤ 1000000 ∧ OpV (gi c 2) (gl c 3) (gl c 4) (gi c 5))
theorem VS.up {s : SD} (h : VS 0 s) (hi : s.idx < 1000000) : VS 0 s.up := by
  have e : s.up.idx = s.idx + 1 := rfl
  have i0 := h.i0
  have l1 := h.l1
  refine ⟨by omega, by omega, h.l0, by show s.lost ≤ s.idx + 1; omega, h.nr, h.nt, h.ns, h.nl, fun r hr => ?_, h.hold, h.asc, fun t ht => ?_, h.ord, h.nd, fun y hy => ?_, h.sasc, fun l hl => ?_, h.lasc, h.wr, h.wt⟩
  · obtain ⟨a, b, c, d⟩ := h.rows r hr; exact ⟨a, b, c, by omega⟩
  · obtain ⟨a, b, c, d⟩ := h.tombs t ht; exact ⟨a, b, by omega, d⟩
  · obtain ⟨a, b⟩ := h.sess y hy; exact ⟨a, by omega⟩
  · obtain ⟨a1, a2, a3, a4, a5, a6, a7, a8⟩ := h.lasts l hl; exact ⟨a1, a2, a3, a4, a5, a6, a7, by omega⟩
theorem VS.withLasts {s : SD} (h : VS 0 s) {l : List V} (h1 : ∀ x ∈ l, 0 ≤ gi x 0 ∧ gi x 0 ≤ 3 ∧ 1 ≤ gi x 1 ∧ gi x 1 ≤ 1000000 ∧ 0 ≤ gi x 2 ∧ gi x 2 ≤ 5 ∧ 1 ≤ gi x 3 ∧ gi x 3 ≤ s.idx) (h2 : AscI l) : VS 0 { s with lasts := l } :=
  ⟨h.i0, h.i1, h.l0, h.l1, h.nr, h.nt, h.ns, ascI_few h2 fun x hx => ⟨(h1 x hx).1, (h1 x hx).2.1⟩, h.rows, h.hold, h.asc, h.tombs, h.ord, h.nd, h.sess, h.sasc, h1, h2, h.wr, h.wt⟩
theorem ZhL {l : List V} (h : AscI l) {c : Int} (hn : Zfz l c = false) {i : Nat} (hi : i < l.length) (he : lbI l c ≤ i) : c < gi (rd l i) 0 := by
  have e1 := Zex h c i hi
  rw [decide_eq_false (show ¬ i < lbI l c by omega)] at e1
  have e1 : ¬ gi (rd l i) 0 < c := of_decide_eq_false e1
  have hlt : lbI l c < l.length := by omega
  have e2 : gi (rd l (lbI l c)) 0 ≠ c := fun e => by
    unfold Zfz at hn
    rw [decide_eq_true hlt, decide_eq_true e] at hn; cases hn
  have e3 := Zex h c _ hlt
  rw [decide_eq_false (Nat.lt_irrefl _)] at e3
  have e3 : ¬ gi (rd l (lbI l c)) 0 < c := of_decide_eq_false e3
  rcases Nat.lt_or_ge (lbI l c) i with d | d
  · have := h.lt _ _ d hi; omega
  · obtain rfl : i = lbI l c := by omega
    omega
theorem ZmK {s : SD} (h : VS 0 s) (hi : s.idx < 1000000) {c : V} (hc : CmdV c) :
    (s.apply c = ((0, s.idx + 1), s.up) ∧ gi c 0 < 0) ∨
    (0 ≤ gi c 0 ∧ gi c 0 ≤ 3 ∧ ∃ l ∈ s.lasts, gi l 0 = gi c 0 ∧ gi l 1 = gi c 1 ∧ s.apply c = ((gi l 2, gi l 3), s.up)) ∨
    (0 ≤ gi c 0 ∧ gi c 0 ≤ 3 ∧ ∃ l ∈ s.lasts, gi l 0 = gi c 0 ∧ gi c 1 < gi l 1 ∧ s.apply c = ((5, s.idx + 1), s.up)) ∨
    (0 ≤ gi c 0 ∧ gi c 0 ≤ 3 ∧ OpV (gi c 2) (gl c 3) (gl c 4) (gi c 5) ∧ ∃ L : List V, s.apply c = (((s.up.do' (gi c 2) (gl c 3) (gl c 4) (gi c 5)).1, s.idx + 1), { (s.up.do' (gi c 2) (gl c 3) (gl c 4) (gi c 5)).2 with lasts := L }) ∧ AscI L ∧
      (∀ l, l ∈ L ↔ l = lastV (gi c 0) (gi c 1) (s.up.do' (gi c 2) (gl c 3) (gl c 4) (gi c 5)).1 (s.idx + 1) ∨ (l ∈ s.lasts ∧ gi l 0 ≠ gi c 0)) ∧ (∀ l ∈ s.lasts, gi l 0 = gi c 0 → gi l 1 < gi c 1)) := by
  have hlen := ZjX s.lasts (gi c 0)
  by_cases h0 : gi c 0 < 0
  · refine .inl ⟨?_, h0⟩
    unfold SD.apply; rw [dT h0]; rfl
  rcases hc with hc | ⟨c0, c3, r1, r2, ho⟩
  · exact absurd hc h0
  have hsp := Zex h.lasc (gi c 0)
  unfold SD.apply
  rw [dF h0, ZjZ h.lasc]
  simp only [cond_false]
  rw [show (decide (lbI s.lasts (gi c 0) < s.lasts.length) && decide (gi (rd s.lasts (lbI s.lasts (gi c 0))) 0 = gi c 0)) = Zfz s.lasts (gi c 0) from rfl]
  cases hh : Zfz s.lasts (gi c 0) with
  | true =>
    have hh' := hh
    unfold Zfz at hh'
    rw [Bool.and_eq_true] at hh'
    have hlt : lbI s.lasts (gi c 0) < s.lasts.length := of_decide_eq_true hh'.1
    have he : gi (rd s.lasts (lbI s.lasts (gi c 0))) 0 = gi c 0 := of_decide_eq_true hh'.2
    generalize lbI s.lasts (gi c 0) = p at *
    have uniq : ∀ l ∈ s.lasts, gi l 0 = gi c 0 → l = rd s.lasts p := fun l hl e => by
      obtain ⟨i, hi, rfl⟩ := Zcp hl
      rcases Nat.lt_trichotomy i p with d | d | d
      · have := h.lasc.lt _ _ d hlt; omega
      · rw [d]
      · have := h.lasc.lt _ _ d hi; omega
    by_cases e1 : gi (rd s.lasts p) 1 = gi c 1
    · rw [dT e1]
      exact .inr (.inl ⟨c0, c3, _, ZE hlt, he, e1, rfl⟩)
    rw [dF e1]
    by_cases e2 : gi c 1 < gi (rd s.lasts p) 1
    · rw [dT e2]
      exact .inr (.inr (.inl ⟨c0, c3, _, ZE hlt, he, e2, rfl⟩))
    rw [dF e2]
    refine .inr (.inr (.inr ⟨c0, c3, ho, _, rfl, ?_, fun l => ?_, fun l hl e => ?_⟩))
    · exact Asc.set (R := fun a b => gi a 0 < gi b 0) h.lasc (fun a ha => ha) (fun a ha => ha)
    · rw [he, (set_perm hlt _).mem_iff, List.mem_cons]
      have hp := Zgn hlt
      refine or_congr Iff.rfl ⟨fun hl => ⟨ZbI hl, fun e => ?_⟩, fun ⟨hl, hne⟩ => ?_⟩
      · obtain ⟨i, hi, rfl⟩ := Zcp hl
        have hrl := ZdY hlt
        rw [rdRm (Nat.le_of_lt hlt)] at e
        by_cases d : i < p
        · rw [if_pos d] at e
          have := h.lasc.lt _ _ d hlt; omega
        · rw [if_neg d] at e
          have := h.lasc.lt (i + 1) p (by omega) (by omega); omega
      · rcases List.mem_cons.1 (hp.mem_iff.1 hl) with rfl | hl
        · exact absurd he hne
        · exact hl
    · rw [uniq l hl e]; omega
  | false =>
    refine .inr (.inr (.inr ⟨c0, c3, ho, _, rfl, ?_, fun l => ?_, fun l hl e => ?_⟩))
    · refine Asc.ins (R := fun a b => gi a 0 < gi b 0) h.lasc hlen (fun h0 => ?_) (fun h0 => ?_)
      · have := hsp (lbI s.lasts (gi c 0) - 1) (by omega)
        rw [decide_eq_true (show lbI s.lasts (gi c 0) - 1 < lbI s.lasts (gi c 0) by omega)] at this
        exact of_decide_eq_true this
      · exact ZhL h.lasc hh h0 (Nat.le_refl _)
    · rw [(ZiM _ _ _).mem_iff, List.mem_cons]
      refine or_congr Iff.rfl ⟨fun hl => ⟨hl, fun e => ?_⟩, fun hl => hl.1⟩
      obtain ⟨i, hi, rfl⟩ := Zcp hl
      rcases Nat.lt_or_ge i (lbI s.lasts (gi c 0)) with d | d
      · have := hsp i hi
        rw [decide_eq_true d] at this
        have := of_decide_eq_true this; omega
      · have := ZhL h.lasc hh hi d; omega
    · obtain ⟨i, hi, rfl⟩ := Zcp hl
      rcases Nat.lt_or_ge i (lbI s.lasts (gi c 0)) with d | d
      · have := hsp i hi
        rw [decide_eq_true d] at this
        have := of_decide_eq_true this; omega
      · have := ZhL h.lasc hh hi d; omega
theorem VS.apply {s : SD} (h : VS 0 s) (hi : s.idx < 1000000) {c : V} (hc : CmdV c) : VS 0 (s.apply c).2 ∧ (s.apply c).2.idx = s.idx + 1 ∧ 1 ≤ (s.apply c).1.2 ∧ (s.apply c).1.2 ≤ s.idx + 1 := by
  have i0 := h.i0
  rcases ZmK h hi hc with ⟨e, -⟩ | ⟨-, -, l, hl, -, -, e⟩ | ⟨-, -, l, hl, -, -, e⟩ | ⟨c0, c3, ho, L, e, hA, hL, -⟩
  · rw [e]; exact ⟨h.up hi, rfl, by show 1 ≤ s.idx + 1; omega, Int.le_refl _⟩
  · rw [e]
    have := h.lasts l hl
    exact ⟨h.up hi, rfl, by show 1 ≤ gi l 3; omega, by show gi l 3 ≤ s.idx + 1; omega⟩
  · rw [e]; exact ⟨h.up hi, rfl, by show 1 ≤ s.idx + 1; omega, Int.le_refl _⟩
  · rcases hc with hc | ⟨-, -, r1, r2, -⟩
    · omega
    obtain ⟨d1, d2, d3, d4, -⟩ := (h.up hi).do' (show 1 ≤ s.idx + 1 by omega) (fun y hy => by have := h.sess y hy; show gi y 0 < s.idx + 1; omega) ho
    have d4 : _ = s.idx + 1 := d4
    rw [e]
    refine ⟨d1.withLasts (fun x hx => ?_) hA, d4, by show 1 ≤ s.idx + 1; omega, Int.le_refl _⟩
    rcases (hL x).1 hx with rfl | ⟨hx, -⟩
    · refine ⟨c0, c3, r1, r2, d2, ?_, ?_, ?_⟩
      · exact Int.le_trans d3 (by decide)
      · show 1 ≤ s.idx + 1; omega
      · show s.idx + 1 ≤ _; omega
    · obtain ⟨a1, a2, a3, a4, a5, a6, a7, a8⟩ := h.lasts x hx
      exact ⟨a1, a2, a3, a4, a5, a6, a7, by omega⟩
end Go.Eng.R
open Go Go.Eng
namespace Go.Eng.R
set_option maxRecDepth 100000
end Go.Eng.R
open Go Go.Eng
namespace Go.Eng.R
def opB (k : Int) (key : Bool) (nk nv : Nat) (n : Int) : Bool :=
  decide (nv ≤ 20) && (decide (0 ≤ n ∧ n ≤ 1000000) &&
    (bif decide (k = 1 ∨ k = 2 ∨ k = 3 ∨ k = 6 ∨ k = 7) then key else decide (nk = 0)) &&
    ((bif decide (k = 1 ∨ k = 2 ∨ k = 6) then true else decide (nv = 0)) &&
    ((bif decide (k = 0 ∨ k = 1 ∨ k = 3) then decide (n = 0) else bif decide (k = 4) then decide (n ≤ 1) else bif decide (k = 2) then true else decide (1 ≤ n)) && decide (0 ≤ k ∧ k ≤ 7))))
theorem Zl3 {o : V} (ho : W_Op o) : ZfN o = some (opB (gi o 0) (ZbH (gl o 1)) (gl o 1).length (gl o 2).length (gi o 3)) := by
  unfold ZfN
  rw [ZeY ho.2.1]
  simp only [Zdt, Zb2, Option.bind_some]
  generalize gi o 0 = k
  generalize ZbH (gl o 1) = key
  generalize (gl o 1).length = nk
  generalize (gl o 2).length = nv
  generalize gi o 3 = n
  by_cases hk : 0 ≤ k ∧ k ≤ 7
  · obtain rfl | rfl | rfl | rfl | rfl | rfl | rfl | rfl : k = 0 ∨ k = 1 ∨ k = 2 ∨ k = 3 ∨ k = 4 ∨ k = 5 ∨ k = 6 ∨ k = 7 := by omega
    all_goals (cases key <;> simp [opB, Bool.cond_eq_ite] <;> (repeat' split) <;> simp_all <;> first | omega | (rw [Bool.eq_iff_iff]; simp; omega))
  · have hh : decide (0 ≤ k ∧ k ≤ 7) = false := by simpa using hk
    have h0 : decide (k = 0) = false := by simp; omega
    have h1 : decide (k = 1) = false := by simp; omega
    have h2 : decide (k = 2) = false := by simp; omega
    have h3 : decide (k = 3) = false := by simp; omega
    have h4 : decide (k = 4) = false := by simp; omega
    have h5 : decide (k = 5) = false := by simp; omega
    have h6 : decide (k = 6) = false := by simp; omega
    have h7 : decide (k = 7) = false := by simp; omega
    simp only [opB, hh, h0, h1, h2, h3, h4, h5, h6, h7, cond_false, Bool.and_false]
theorem Zl4 {o : V} (ho : W_Op o) : ZeP o = some (opB (gi o 0) (ZbH (gl o 1)) (gl o 1).length (gl o 2).length (gi o 3)) := by
  unfold ZeP
  rw [Zk5 ho.2.1]
  simp only [ZgS, Zfv, Option.bind_some]
  generalize gi o 0 = k
  generalize ZbH (gl o 1) = key
  generalize (gl o 1).length = nk
  generalize (gl o 2).length = nv
  generalize gi o 3 = n
  by_cases hk : 0 ≤ k ∧ k ≤ 7
  · obtain rfl | rfl | rfl | rfl | rfl | rfl | rfl | rfl : k = 0 ∨ k = 1 ∨ k = 2 ∨ k = 3 ∨ k = 4 ∨ k = 5 ∨ k = 6 ∨ k = 7 := by omega
    all_goals (cases key <;> simp [opB, Bool.cond_eq_ite] <;> (repeat' split) <;> simp_all <;> omega)
  · have hh : decide (0 ≤ k ∧ k ≤ 7) = false := by simpa using hk
    simp only [opB, hh, Bool.and_false]
    by_cases h : k < 0
    · simp [h]
    · rw [show decide (k < 0) = false from by simpa using h, show decide (7 < k) = true from by simp; omega]; rfl
def Zcz (c : V) : Bool :=
  bif decide (gi c 0 = -1) then decide (gi c 1 = 0) && (decide (gi c 2 = 0) && opB (gi c 2) (ZbH (gl c 3)) (gl c 3).length (gl c 4).length (gi c 5))
  else decide (0 ≤ gi c 0 ∧ gi c 0 ≤ 3) && (decide (1 ≤ gi c 1 ∧ gi c 1 ≤ 1000000) && opB (gi c 2) (ZbH (gl c 3)) (gl c 3).length (gl c 4).length (gi c 5))
theorem Zg8 {c : V} (hc : Zdg c) : Zcm c = some (Zcz c) := by
  unfold Zcm
  rw [Zl4 (o := V.agg [(V.int .i64 (gi c 2)), (V.inl Zb (gl c 3)), (V.inl Zb (gl c 4)), (V.int .i64 (gi c 5))]) hc.2.2]
  simp only [Option.bind_some, ZjG, ZjI, ZjH, ZjJ, Zcz]
  generalize opB _ _ _ _ _ = z
  by_cases h1 : gi c 0 = -1
  · simp only [h1, decide_true, cond_true]
    by_cases h2 : gi c 1 = 0 <;> by_cases h3 : gi c 2 = 0 <;> simp [h2, h3]
  · simp only [h1, decide_false, cond_false]
    by_cases h2 : 0 ≤ gi c 0 <;> by_cases h3 : gi c 0 < 4 <;> by_cases h4 : 1 ≤ gi c 1 <;> by_cases h5 : gi c 1 ≤ 1000000 <;> simp [h2, h3, h4, h5] <;> omega
theorem ZnN (l : List V) : Zbd (l.map Za5) [] = decide (l.length = 0) := by cases l <;> simp [Zbd]
theorem Zkm (c : V) : ZdQ (ZY c) (ZY ZfM) = (decide (gi c 0 = -1) && (decide (gi c 1 = 0) && (decide (gi c 2 = 0) && (decide ((gl c 3).length = 0) && (decide ((gl c 4).length = 0) && decide (gi c 5 = 0)))))) := by
  simp only [ZdQ, Zfw, ZfM, ZY, ZjG, ZjI, ZjH, ZjJ, ZdH, List.map_nil, ZnN]
  by_cases h0 : gi c 0 = -1 <;> by_cases h1 : gi c 1 = 0 <;> by_cases h2 : gi c 2 = 0 <;> by_cases h3 : (gl c 3).length = 0 <;> by_cases h4 : (gl c 4).length = 0 <;> simp [h0, h1, h2, h3, h4] <;> rfl
theorem Zg9 {c : V} (hc : Zdg c) : ZcU c = some (Zcz c) := by
  unfold ZcU
  rw [Zl3 (o := V.agg [(V.int .i64 (gi c 2)), (V.inl Zb (gl c 3)), (V.inl Zb (gl c 4)), (V.int .i64 (gi c 5))]) hc.2.2, Zkm]
  simp only [Option.bind_some, ZjG, ZjI, ZjH, ZjJ, Zcz, Zdt]
  by_cases h1 : gi c 0 = -1
  · simp only [h1, decide_true, cond_true, Bool.true_and]
    rw [show decide (0 ≤ (-1 : Int) ∧ (-1 : Int) ≤ 3) = false from rfl]
    by_cases h2 : gi c 1 = 0 <;> by_cases h3 : gi c 2 = 0 <;> simp only [h2, h3, decide_true, decide_false, Bool.true_and, Bool.false_and, cond_false]
    simp only [opB]
    by_cases a3 : (gl c 3).length = 0 <;> by_cases a4 : (gl c 4).length = 0 <;> by_cases a5 : gi c 5 = 0 <;> simp [a3, a4, a5]
  · simp only [h1, decide_false, cond_false, Bool.false_and]
    generalize opB _ _ _ _ _ = z
    by_cases h2 : 0 ≤ gi c 0 ∧ gi c 0 ≤ 3 <;> by_cases h3 : 1 ≤ gi c 1 ∧ gi c 1 ≤ 1000000 <;> simp [h2, h3]
end Go.Eng.R
open Go Go.Eng
namespace Go.Eng.R
set_option maxRecDepth 100000
structure Eqv (a b : SD) : Prop where
  idx : a.idx = b.idx
  lost : a.lost = b.lost
  sess : a.sess = b.sess
  lasts : a.lasts = b.lasts
  rows : SameL RowE a.rows b.rows
  tombs : SameL Zh5 a.tombs b.tombs
theorem own_eqN {s : SD} (h : VS 0 s) : ∃ a, Eqv a s ∧ ((∀ r ∈ a.rows, nrow r = r) ∧ (∀ t ∈ a.tombs, Ze8 t = t)) ∧ ZbV (Zc s.v) = some a.v := by
  have n1 := h.nr; have n2 := h.nt; have n3 := h.ns; have n4 := h.nl
  obtain ⟨R, T, e, hR, hT, hN⟩ := own_O (s := s.v) (show s.rows.length ≤ 1000 by omega) (show s.tombs.length ≤ 1000 by omega) (show s.sess.length ≤ 1000 by omega) (show s.lasts.length ≤ 1000 by omega) (fun j hj => by
    have := h.rows _ (ZE (show j < s.rows.length from hj))
    have h1 := ZiN this.1
    have h2 := this.2.1
    exact ⟨by show (gl (rd s.rows j) 0).length ≤ 1000; omega, by show (gl (rd s.rows j) 1).length ≤ 1000; omega⟩) (fun j hj => by
    have := h.tombs _ (ZE (show j < s.tombs.length from hj))
    have h1 := ZiN this.1
    show (gl (rd s.tombs j) 0).length ≤ 1000; omega)
  exact ⟨⟨s.idx, R, T, s.lost, s.sess, s.lasts⟩, ⟨rfl, rfl, rfl, rfl, hR, hT⟩, hN, e⟩
theorem opB_V {k : Int} {key val : List V} {n : Int} (h : opB k (ZbH key) key.length val.length n = true) (wk : LW Zal key) (wv : LW Zal val) : OpV k key val n := by
  unfold opB at h
  simp only [Bool.and_eq_true, decide_eq_true_eq] at h
  obtain ⟨h1, ⟨-, h3⟩, -, -, h6⟩ := h
  refine ⟨h6, fun hk => ?_, fun hk => ?_, h1, wk, wv⟩
  · rw [decide_eq_true (show k = 1 ∨ k = 2 ∨ k = 3 ∨ k = 6 ∨ k = 7 from hk)] at h3; exact h3
  · rw [decide_eq_false (show ¬ (k = 1 ∨ k = 2 ∨ k = 3 ∨ k = 6 ∨ k = 7) from hk)] at h3
    exact of_decide_eq_true h3
theorem cmdB_V {c : V} (hw : Zdg c) (h : Zcz c = true) : CmdV c := by
  unfold Zcz at h
  by_cases h1 : gi c 0 = -1
  · exact .inl (by omega)
  · rw [decide_eq_false h1] at h
    simp only [cond_false, Bool.and_eq_true, decide_eq_true_eq] at h
    exact .inr ⟨h.1.1, h.1.2, h.2.1.1, h.2.1.2, opB_V h.2.2 hw.2.2.2.1 hw.2.2.2.2.1⟩
theorem CmdV.lens {c : V} (hw : Zdg c) (h : Zcz c = true) : (gl c 3).length ≤ 1000 ∧ (gl c 4).length ≤ 1000 ∧ (opK (gi c 2) → 0 < (gl c 3).length) ∧ (gi c 0 < 0 ∨ (0 ≤ gi c 0 ∧ gi c 0 ≤ 3)) := by
  have key : ∀ {k : Int} {n : Int}, opB k (ZbH (gl c 3)) (gl c 3).length (gl c 4).length n = true → (gl c 3).length ≤ 1000 ∧ (gl c 4).length ≤ 1000 ∧ (opK k → 0 < (gl c 3).length) := fun {k n} h => by
    have ho := opB_V h hw.2.2.2.1 hw.2.2.2.2.1
    have hv := ho.val
    by_cases hk : opK k
    · have := ho.key hk
      have h1 := ZiN this
      refine ⟨by omega, by omega, fun _ => ?_⟩
      unfold ZbH at this
      simp only [Bool.and_eq_true, decide_eq_true_eq] at this
      omega
    · have := ho.nk hk
      exact ⟨by omega, by omega, fun h => absurd h hk⟩
  unfold Zcz at h
  by_cases h1 : gi c 0 = -1
  · rw [decide_eq_true h1] at h
    simp only [cond_true, Bool.and_eq_true] at h
    obtain ⟨a, b, d⟩ := key h.2.2
    exact ⟨a, b, d, .inl (by omega)⟩
  · rw [decide_eq_false h1] at h
    simp only [cond_false, Bool.and_eq_true, decide_eq_true_eq] at h
    obtain ⟨a, b, d⟩ := key h.2.2
    exact ⟨a, b, d, .inr h.1⟩
def Zj2 (a b : Int) : V := V.agg [(V.int .i64 a), (V.int .i64 b)]
end Go.Eng.R
open Go Go.Eng
namespace Go.Eng.R
set_option maxRecDepth 100000
theorem B_Cmd.W {c : V} (h : B_Cmd c) : Zdg c := ⟨h.1, h.2.1, h.2.2.1, h.2.2.2.1.1, h.2.2.2.2.1.1, h.2.2.2.2.2⟩
theorem VS.zero : VS 0 ⟨0, [], [], 0, [], []⟩ :=
  ⟨Int.le_refl _, by decide, Int.le_refl _, Int.le_refl _, Nat.zero_le _, Nat.zero_le _, Nat.zero_le _, Nat.zero_le _, fun _ h => (by cases h), fun _ h => (by cases h), fun i h => absurd h (Nat.not_lt_zero _), fun _ h => (by cases h), List.Pairwise.nil, List.nodup_nil, fun _ h => (by cases h), fun i h => absurd h (Nat.not_lt_zero _), fun _ h => (by cases h), fun i h => absurd h (Nat.not_lt_zero _), fun _ h => (by cases h), fun _ h => (by cases h)⟩
end Go.Eng.R
open Go Go.Eng
namespace Go.Eng.R
set_option maxRecDepth 100000
theorem at_O {code : List V} (h : LW Zal code) (i : Int) (hi : 0 ≤ i) : Ok (fun x => 0 ≤ x ∧ x ≤ 255) (Zh2 code i) := by
  unfold Zh2
  by_cases h0 : code.length = 0
  · rw [decide_eq_true (show ((code.length : Nat) : Int) = 0 by omega)]; exact ⟨0, rfl, by decide, by decide⟩
  rw [decide_eq_false (show ¬ ((code.length : Nat) : Int) = 0 by omega)]
  obtain ⟨t0, t1⟩ := Zfb (x := i) (n := ((code.length : Nat) : Int)) hi (by omega)
  simp only [cond_false, Bool.not_false, cond_true]
  rw [idx_of t0 t1]
  have hb := h.rd (i := (i.tmod ((code.length : Nat) : Int)).toNat) (by omega)
  obtain ⟨b0, b1⟩ := hb
  refine ⟨_, rfl, ?_⟩
  show 0 ≤ IntKind.i64.wrap (gi (rd code ((i.tmod ((code.length : Nat) : Int)).toNat)) 0) ∧ _
  rw [ZaK (by omega) (by omega)]
  exact ⟨b0, b1⟩
end Go.Eng.R
open Go Go.Eng
namespace Go.Eng.R
set_option maxRecDepth 100000
theorem Zl5 {x y : SD} (h : SameL RowE x.rows y.rows) (hl : x.rows.length ≤ 1000) : Zab (x.rows.length + 1) 0 x.v y.v = some (1, false, x.v, y.v) := by
  refine ZeN (F := fun m i => Zab m i x.v y.v) ?_ ?_
  · intro m i hi
    have hy : i < y.rows.length := by rw [← h.1]; exact hi
    obtain ⟨q1, q2, q3, q4⟩ := h.2 i hy
    show Zab (m + 1) (i : Int) x.v y.v = _
    rw [Zab]
    simp only [show gl x.v 1 = x.rows from rfl, show gl y.v 1 = y.rows from rfl, ZaD hi, Zp hi, Zp hy, Int.toNat_natCast, cond_true, q1, q2, q3, q4, show ∀ a, ZbW a a = true from fun a => ZgV a, Bool.not_true, cond_false, decide_true, Zax hi (show x.rows.length ≤ 9223372036854775807 by omega)]
    rfl
  · intro m
    show Zab (m + 1) ((x.rows.length : Nat) : Int) x.v y.v = _
    rw [Zab, show gl x.v 1 = x.rows from rfl, Zas]; rfl
theorem Zk8 {x y : SD} (h : SameL Zh5 x.tombs y.tombs) (hl : x.tombs.length ≤ 1000) : Z5 (x.tombs.length + 1) 0 x.v y.v = some (1, false, x.v, y.v) := by
  refine ZeN (F := fun m i => Z5 m i x.v y.v) ?_ ?_
  · intro m i hi
    have hy : i < y.tombs.length := by rw [← h.1]; exact hi
    obtain ⟨q1, q2⟩ := h.2 i hy
    show Z5 (m + 1) (i : Int) x.v y.v = _
    rw [Z5]
    simp only [show gl x.v 2 = x.tombs from rfl, show gl y.v 2 = y.tombs from rfl, ZaD hi, Zp hi, Zp hy, Int.toNat_natCast, cond_true, q1, q2, show ∀ a, ZbW a a = true from fun a => ZgV a, Bool.not_true, cond_false, decide_true, Zax hi (show x.tombs.length ≤ 9223372036854775807 by omega)]
    rfl
  · intro m
    show Z5 (m + 1) ((x.tombs.length : Nat) : Int) x.v y.v = _
    rw [Z5, show gl x.v 2 = x.tombs from rfl, Zas]; rfl
theorem Zk9 {x y : SD} (h : x.sess = y.sess) (hl : x.sess.length ≤ 1000) : Z6 (x.sess.length + 1) 0 x.v y.v = some (1, false, x.v, y.v) := by
  refine ZeN (F := fun m i => Z6 m i x.v y.v) ?_ ?_
  · intro m i hi
    show Z6 (m + 1) (i : Int) x.v y.v = _
    rw [Z6]
    simp only [show gl x.v 4 = x.sess from rfl, show gl y.v 4 = y.sess from rfl, ← h, ZaD hi, Zp hi, Int.toNat_natCast, cond_true, beq_self_eq_true, Bool.and_self, Bool.not_true, cond_false, decide_true, Zax hi (show x.sess.length ≤ 9223372036854775807 by omega)]
    rfl
  · intro m
    show Z6 (m + 1) ((x.sess.length : Nat) : Int) x.v y.v = _
    rw [Z6, show gl x.v 4 = x.sess from rfl, Zas]; rfl
theorem Zla {x y : SD} (h : x.lasts = y.lasts) (hl : x.lasts.length ≤ 1000) : Z7 (x.lasts.length + 1) 0 x.v y.v = some (1, false) := by
  refine ZeN (F := fun m i => Z7 m i x.v y.v) ?_ ?_
  · intro m i hi
    show Z7 (m + 1) (i : Int) x.v y.v = _
    rw [Z7]
    simp only [show gl x.v 5 = x.lasts from rfl, show gl y.v 5 = y.lasts from rfl, ← h, ZaD hi, Zp hi, Int.toNat_natCast, cond_true, Bool.and_self, Bool.not_true, cond_false, decide_true, Zax hi (show x.lasts.length ≤ 9223372036854775807 by omega)]
    rfl
  · intro m
    show Z7 (m + 1) ((x.lasts.length : Nat) : Int) x.v y.v = _
    rw [Z7, show gl x.v 5 = x.lasts from rfl, Zas]; rfl
theorem Zl6 {x y : SD} (e : Eqv x y) (hx : x.rows.length ≤ 1000 ∧ x.tombs.length ≤ 1000 ∧ x.sess.length ≤ 1000 ∧ x.lasts.length ≤ 1000) : Zbs x.v y.v = some true := by
  unfold Zbs
  simp only [show gl x.v 1 = x.rows from rfl, show gl x.v 2 = x.tombs from rfl, show gl x.v 4 = x.sess from rfl, show gl x.v 5 = x.lasts from rfl, show gi x.v 0 = x.idx from rfl, show gi x.v 3 = x.lost from rfl, show gl y.v 1 = y.rows from rfl, show gl y.v 2 = y.tombs from rfl, show gl y.v 4 = y.sess from rfl, show gl y.v 5 = y.lasts from rfl, show gi y.v 0 = y.idx from rfl, show gi y.v 3 = y.lost from rfl, ← e.idx, ← e.lost, ← e.sess, ← e.lasts, ← e.rows.1, ← e.tombs.1, decide_true, Bool.not_true, cond_false, show Zc x.v = x.v from rfl, show Zc y.v = y.v from rfl, Zbq, Zl5 e.rows hx.1, Option.bind_some, show Nat.beq 1 0 = false from rfl, Zk8 e.tombs hx.2.1, Zk9 e.sess hx.2.2.1, Zla e.lasts hx.2.2.2]
end Go.Eng.R
open Go Go.Eng
namespace Go.Eng.R
set_option maxRecDepth 100000
structure Norm (s : SD) : Prop where
  rows : ∀ r ∈ s.rows, nrow r = r
  tombs : ∀ t ∈ s.tombs, Ze8 t = t
theorem Norm.zero : Norm ⟨0, [], [], 0, [], []⟩ := ⟨fun _ h => (by cases h), fun _ h => (by cases h)⟩
theorem Norm.bury {s : SD} (h : Norm s) (i : Nat) : Norm (s.bury i) := by
  have ht : ∀ t ∈ s.tombs ++ [ZdB (gl (rd s.rows i) 0) s.idx], Ze8 t = t := fun t ht => by
    rcases List.mem_append.1 ht with ht | ht
    · exact h.tombs t ht
    · rw [List.mem_singleton.1 ht]; rfl
  unfold SD.bury
  cases decide (10 < s.tombs.length + 1) with
  | true => exact ⟨fun r hr => h.rows r (ZbI hr), fun t h' => ht t (List.mem_of_mem_drop h')⟩
  | false => exact ⟨fun r hr => h.rows r (ZbI hr), ht⟩
theorem Norm.setRow {s : SD} (h : Norm s) (j : Nat) (k v : List V) (t o : Int) : Norm { s with rows := s.rows.set j (ZbA k v t o) } :=
  ⟨fun r hr => by
    rcases List.mem_or_eq_of_mem_set hr with hr | hr
    · exact h.rows r hr
    · rw [hr]; rfl, h.tombs⟩
theorem Norm.put {s : SD} (h : Norm s) (key val : List V) : Norm (s.put key val).2 := by
  unfold SD.put
  cases Zt (fun i => neq (gl (rd s.rows i) 0) key) 0 s.rows.length with
  | some j => exact h.setRow j _ _ _ _
  | none =>
    cases decide (20 ≤ s.rows.length) with
    | true => exact h
    | false =>
      refine ⟨fun r hr => ?_, fun t ht => ?_⟩
      · rcases ZfP hr with rfl | hr
        · rfl
        · exact h.rows r hr
      · revert ht
        show t ∈ (match Zt (fun i => neq (gl (rd s.tombs i) 0) key) 0 s.tombs.length with | some j => ZaP s.tombs j | none => s.tombs) → _
        cases Zt (fun i => neq (gl (rd s.tombs i) 0) key) 0 s.tombs.length with
        | some j => exact fun ht => h.tombs t (ZbI ht)
        | none => exact fun ht => h.tombs t ht
theorem Norm.hold {s : SD} (h : Norm s) (key : List V) (n : Int) : Norm (s.hold key n) := by
  unfold SD.hold
  cases Zt (fun i => neq (gl (rd s.rows i) 0) key) 0 s.rows.length with
  | none => exact h
  | some j => exact h.setRow j _ _ _ _
theorem Norm.shutL (id : Int) (del : Bool) : ∀ (n k : Nat) (s : SD), Norm s → Norm (SD.shutL id del n k s)
  | 0, _, _, h => h
  | n + 1, k, s, h => by
    rw [SD.shutL]
    cases decide (k < s.rows.length) with
    | false => exact h
    | true =>
      cases decide (gi (rd s.rows k) 3 = id) with
      | false => exact Norm.shutL id del n (k + 1) s h
      | true =>
        cases del with
        | true => exact Norm.shutL id true n k _ (h.bury k)
        | false => exact Norm.shutL id false n (k + 1) _ (h.setRow k _ _ _ _)
theorem Norm.shut {s : SD} (h : Norm s) (i : Nat) : Norm (s.shut i) := Norm.shutL _ _ _ _ _ ⟨h.rows, h.tombs⟩
theorem Norm.do' {s : SD} (h : Norm s) (k : Int) (key val : List V) (n : Int) : Norm (s.do' k key val n).2 := by
  have hp := h.put key val
  unfold SD.do'
  cases decide (k = 1) with
  | true => exact hp
  | false =>
  cases decide (k = 2) with
  | true =>
    show Norm (bif _ then s.puts key val else (3, s)).2
    cases decide ((match s.look key with | some j => gi (rd s.rows j) 2 | none => 0) = n) with
    | true => exact hp
    | false => exact h
  | false =>
  cases decide (k = 3) with
  | true =>
    show Norm (match s.look key with | some j => ((0 : Int), s.bury j) | none => (1, s)).2
    cases s.look key with
    | some j => exact h.bury j
    | none => exact h
  | false =>
  cases decide (k = 4) with
  | true =>
    show Norm (bif decide (8 ≤ s.sess.length) then ((4 : Int), s) else (0, { s with sess := s.sess ++ [sessV s.idx (decide (n = 1))] })).2
    cases decide (8 ≤ s.sess.length) with
    | true => exact h
    | false => exact ⟨h.rows, h.tombs⟩
  | false =>
  cases decide (k = 5) with
  | true =>
    show Norm (match s.sessAt n with | some i => ((0 : Int), s.shut i) | none => (1, s)).2
    cases s.sessAt n with
    | some i => exact h.shut i
    | none => exact h
  | false =>
  cases decide (k = 6) with
  | true =>
    show Norm (match s.sessAt n with
      | none => ((1 : Int), s)
      | some _ => bif (match s.look key with | some j => !decide (gi (rd s.rows j) 3 = 0) && !decide (gi (rd s.rows j) 3 = n) | none => false) then (2, s)
        else bif (s.put key val).1 then (0, (s.put key val).2.hold key n) else (4, (s.put key val).2)).2
    cases s.sessAt n with
    | none => exact h
    | some i =>
      cases (match s.look key with | some j => !decide (gi (rd s.rows j) 3 = 0) && !decide (gi (rd s.rows j) 3 = n) | none => false) with
      | true => exact h
      | false =>
        show Norm (bif (s.put key val).1 then ((0 : Int), (s.put key val).2.hold key n) else (4, (s.put key val).2)).2
        cases (s.put key val).1 with
        | true => exact hp.hold key n
        | false => exact hp
  | false =>
  cases decide (k = 7) with
  | true =>
    show Norm (match s.look key with
      | some j => bif decide (gi (rd s.rows j) 3 = n) then ((0 : Int), { s with rows := s.rows.set j (ZbA (gl (rd s.rows j) 0) (gl (rd s.rows j) 1) s.idx 0) }) else (1, s)
      | none => (1, s)).2
    cases s.look key with
    | none => exact h
    | some j =>
      dsimp only
      cases decide (gi (rd s.rows j) 3 = n) with
      | true => exact h.setRow j _ _ _ _
      | false => exact h
  | false => exact h
theorem Norm.up {s : SD} (h : Norm s) : Norm s.up := ⟨h.rows, h.tombs⟩
theorem Norm.apply {s : SD} (h : Norm s) (c : V) : Norm (s.apply c).2 := by
  have hd := h.up.do' (gi c 2) (gl c 3) (gl c 4) (gi c 5)
  unfold SD.apply
  cases decide (gi c 0 < 0) with
  | true => exact h.up
  | false =>
  cases (decide (Zbt s.lasts (gi c 0) < s.lasts.length) && decide (gi (rd s.lasts (Zbt s.lasts (gi c 0))) 0 = gi c 0)) with
  | false => exact ⟨hd.rows, hd.tombs⟩
  | true =>
  cases decide (gi (rd s.lasts (Zbt s.lasts (gi c 0))) 1 = gi c 1) with
  | true => exact h.up
  | false =>
  cases decide (gi c 1 < gi (rd s.lasts (Zbt s.lasts (gi c 0))) 1) with
  | true => exact h.up
  | false => exact ⟨hd.rows, hd.tombs⟩
theorem Norm.eq {a b : SD} (ha : Norm a) (hb : Norm b) (e : Eqv a b) : a = b := by
  have hr : a.rows = b.rows := by
    refine List.ext_getElem e.rows.1 fun i h1 h2 => ?_
    obtain ⟨q1, q2, q3, q4⟩ := e.rows.2 i h2
    rw [← ZcB h1, ← ZcB h2, ← ha.rows _ (ZE h1), ← hb.rows _ (ZE h2)]
    unfold nrow
    rw [q1, q2, q3, q4]
  have ht : a.tombs = b.tombs := by
    refine List.ext_getElem e.tombs.1 fun i h1 h2 => ?_
    obtain ⟨q1, q2⟩ := e.tombs.2 i h2
    rw [← ZcB h1, ← ZcB h2, ← ha.tombs _ (ZE h1), ← hb.tombs _ (ZE h2)]
    unfold Ze8
    rw [q1, q2]
  obtain ⟨a1, a2, a3, a4, a5, a6⟩ := a
  obtain ⟨b1, b2, b3, b4, b5, b6⟩ := b
  have e1 : a1 = b1 := e.idx
  have e4 : a4 = b4 := e.lost
  have e5 : a5 = b5 := e.sess
  have e6 : a6 = b6 := e.lasts
  have hr : a2 = b2 := hr
  have ht : a3 = b3 := ht
  subst e1; subst e4; subst e5; subst e6; subst hr; subst ht
  rfl
theorem own_N {s : SD} (h : VS 0 s) (hn : Norm s) : ZbV (Zc s.v) = some s.v := by
  obtain ⟨a, e1, e2, e3⟩ := own_eqN h
  rw [e3, Norm.eq ⟨e2.1, e2.2⟩ hn e1]
theorem Apply_N {s : SD} (h : VS 0 s) (hn : Norm s) (hi : s.idx < 1000000) {c : V} (hc : Zdg c) (hcb : Zcz c = true) :
    Ze6 (Zc s.v) (ZY c) = some ((s.apply c).2.v, Zj2 (s.apply c).1.1 (s.apply c).1.2) := by
  obtain ⟨l1, l2, l3, l4⟩ := CmdV.lens hc hcb
  have i0 := h.i0; have i1 := h.i1; have n4 := h.nl
  have hap := Zg7 (s := s) (c := c) h.asc h.nr h.nt h.ns (by omega) h.lasc (fun i hi => by have := h.lasts _ (ZE hi); exact ⟨this.1, this.2.1⟩) i0 (by omega) l1 l2 l3 l4
  have hce : ZcU (ZY c) = some (Zcz c) := Zg9 hc
  unfold Ze6
  rw [show Zc (Zc s.v) = Zc s.v from rfl, show ZY (ZY c) = ZY c from rfl, ZfO h.W, h.B, hce, hcb]
  simp only [Option.bind_some, Bool.not_true, cond_false]
  rw [decide_eq_false (show ¬ gi (Zc s.v) 0 = 1000000 by show ¬ s.idx = 1000000; omega), own_N h hn]
  simp only [cond_false, Option.bind_some]
  rw [show Zc s.v = s.v from rfl, hap]
  rfl
end Go.Eng.R
open Go Go.Eng
namespace Go.Eng.R
set_option maxRecDepth 100000
def SD.zero : SD := ⟨0, [], [], 0, [], []⟩
def runS (s : SD) : List V → SD
  | [] => s
  | c :: l => runS (s.apply c).2 l
def Zey (s : SD) : List V → List (Int × Int)
  | [] => []
  | c :: l => (s.apply c).1 :: Zey (s.apply c).2 l
theorem Zl7 (s : SD) : ∀ (a b : List V), runS s (a ++ b) = runS (runS s a) b
  | [], _ => rfl
  | c :: a, b => Zl7 (s.apply c).2 a b
theorem ZiP (s : SD) : ∀ (a b : List V), Zey s (a ++ b) = Zey s a ++ Zey (runS s a) b
  | [], _ => rfl
  | c :: a, b => by
    show (s.apply c).1 :: Zey (s.apply c).2 (a ++ b) = _
    rw [ZiP (s.apply c).2 a b]; rfl
theorem ZiQ (s : SD) : ∀ (l : List V), (Zey s l).length = l.length
  | [] => rfl
  | c :: l => congrArg (· + 1) (ZiQ (s.apply c).2 l)
theorem ZkJ (s : SD) (l : List V) (c : V) : runS s (l ++ [c]) = ((runS s l).apply c).2 := Zl7 s l [c]
theorem ZkK (s : SD) (l : List V) (c : V) : Zey s (l ++ [c]) = Zey s l ++ [((runS s l).apply c).1] := ZiP s l [c]
theorem Zl8 : ∀ (l : List V) {s : SD}, VS 0 s → Norm s → (∀ c ∈ l, CmdV c) → s.idx + (l.length : Int) ≤ 1000000 → VS 0 (runS s l) ∧ Norm (runS s l) ∧ (runS s l).idx = s.idx + (l.length : Int)
  | [], s, h, hn, _, _ => ⟨h, hn, by show s.idx = s.idx + 0; omega⟩
  | c :: l, s, h, hn, hc, hi => by
    rw [List.length_cons] at hi
    have i0 := h.i0
    obtain ⟨a1, a2, -, -⟩ := h.apply (show s.idx < 1000000 by omega) (hc c (List.mem_cons_self ..))
    obtain ⟨b1, b2, b3⟩ := Zl8 l a1 (hn.apply c) (fun d hd => hc d (List.mem_cons_of_mem _ hd)) (by rw [a2]; omega)
    refine ⟨b1, b2, ?_⟩
    show (runS (s.apply c).2 l).idx = _
    rw [b3, a2, List.length_cons]; omega
def ZbN (r : Int × Int) : V := Zj2 r.1 r.2
theorem Zov {s : SD} (h : VS 0 s) (hi : s.idx < 1000000) {c : V} (hc : Zdg c) (hcb : Zcz c = true) : Zbr s.v (ZY c) = some (ZbN (s.apply c).1, (s.apply c).2.v) := by
  obtain ⟨l1, l2, l3, l4⟩ := CmdV.lens hc hcb
  have i0 := h.i0; have i1 := h.i1; have n4 := h.nl
  exact Zg7 (s := s) (c := c) h.asc h.nr h.nt h.ns (by omega) h.lasc (fun i hi => by have := h.lasts _ (ZE hi); exact ⟨this.1, this.2.1⟩) i0 (by omega) l1 l2 l3 l4
def okN (l : List V) (cm : V → V) : Nat := (l.takeWhile fun f => Zcz (cm f)).length
theorem ZeT (l : List V) (cm : V → V) : okN l cm ≤ l.length := (List.takeWhile_prefix _).length_le
theorem Zj3 {l : List V} {cm : V → V} {i : Nat} (h : i < okN l cm) : Zcz (cm (rd l i)) = true := by
  unfold okN at h
  have hp := List.takeWhile_prefix (fun f => Zcz (cm f)) (l := l)
  have hl : i < l.length := Nat.lt_of_lt_of_le h hp.length_le
  have e : (l.takeWhile fun f => Zcz (cm f))[i] = l[i] := hp.getElem h
  have hm := List.getElem_mem h
  have := List.all_takeWhile (p := fun f => Zcz (cm f)) (l := l)
  rw [List.all_eq_true] at this
  have := this _ hm
  rw [e] at this
  rw [ZcB hl]; exact this
theorem Zkn {l : List V} {cm : V → V} (h : okN l cm < l.length) : Zcz (cm (rd l (okN l cm))) = false := by
  unfold okN at h ⊢
  induction l with
  | nil => simp at h
  | cons x l ih =>
    cases hx : Zcz (cm x) with
    | false => rw [List.takeWhile_cons_of_neg (by rw [hx]; exact Bool.false_ne_true)]; exact hx
    | true =>
      rw [List.takeWhile_cons_of_pos (by exact hx)] at h ⊢
      rw [List.length_cons] at h ⊢
      exact ih (by simpa using h)
end Go.Eng.R
open Go Go.Eng
namespace Go.Eng.R
set_option maxRecDepth 100000
theorem ZnO {l : List V} {i : Nat} (h : i < l.length) : l.take (i + 1) = l.take i ++ [rd l i] := by
  rw [List.take_add_one]
  have : l[i]? = some (rd l i) := by simp [rd, List.getD, h]
  rw [this]; rfl
def cmF (f : V) : V := V.agg [(V.int .i64 (gi f 1)), (V.int .i64 (gi f 2)), (V.int .i64 (gi f 3)), (V.inl Zb (gl f 4)), (V.inl Zb (gl f 5)), (V.int .i64 (gi f 6))]
theorem Zow : Zdc = Zbr := by kernel_rfl
theorem ZeZ {n : Int} (hn : n ≤ 20) : ∀ (k i : Nat) (c : V) (r : List V), Z8 c → (∀ f ∈ r, B_Cmd (cmF f)) → r.length ≤ i → (i : Int) ≤ n → (n - (i : Int)).toNat < k →
    Ok (fun l => l.length ≤ 20 ∧ ∀ f ∈ l, B_Cmd (cmF f)) (Zam k n (i : Int) (Za c) r)
  | 0, i, c, r, hc, hr, hl, hi, hk => by omega
  | k + 1, i, c, r, hc, hr, hl, hi, hk => by
    rw [Zam]
    by_cases hin : (i : Int) < n
    case neg => rw [decide_eq_false hin]; exact ⟨_, rfl, by omega, hr⟩
    rw [decide_eq_true hin]
    simp only [cond_true]
    have ew : IntKind.i64.wrap ((i : Int) + 1) = ((i + 1 : Nat) : Int) := by rw [ZaK (by omega) (by omega)]; omega
    refine Ok.bind2 (Zos hc) ?_
    rintro x c1 ⟨h1, hx⟩
    refine Ok.bind (Q := fun _ => True) ⟨_, Zg8 hx.W, trivial⟩ ?_
    rintro b -
    rw [ew]
    have more : ∀ cur : V, Z8 cur → Ok (fun l : List V => l.length ≤ 20 ∧ ∀ f ∈ l, B_Cmd (cmF f)) (bif (Zah (r.length + 1) 88 && true) then Zam k n ((i + 1 : Nat) : Int) (Za cur) (r ++ [(V.agg [(V.int .i64 (i : Int)), (V.int .i64 (gi x 0)), (V.int .i64 (gi x 1)), (V.int .i64 (gi x 2)), (V.inl Zb (gl x 3)), (V.inl Zb (gl x 4)), (V.int .i64 (gi x 5))])]) else none) := fun cur hcur => by
      refine .chk (ZdI (by omega) (by omega)) ?_
      refine ZeZ hn k (i + 1) cur _ hcur (fun f hf => ?_) (by rw [List.length_append, List.length_singleton]; omega) (by omega) (by omega)
      rcases List.mem_append.1 hf with hf | hf
      · exact hr f hf
      · rw [List.mem_singleton.1 hf]; exact hx
    refine .ite (fun _ => more c1 h1) (fun _ => ?_)
    refine Ok.bind (once_O h1 12) ?_
    rintro ⟨b2, c2⟩ h2
    refine .ite (fun _ => more c2 h2) (fun _ => ?_)
    exact ZeZ hn k (i + 1) c2 r h2 hr (by omega) (by omega) (by omega)
theorem Zl9 {code : List V} (h : LW Zal code) : Ok (fun l => l.length ≤ 20 ∧ ∀ f ∈ l, B_Cmd (cmF f)) (Zdf code) := by
  unfold Zdf
  refine Ok.bind (new_O h) ?_
  intro c0 h0
  refine Ok.bind2 (Zfc h0 20) ?_
  rintro n c1 ⟨h1, n0, -, n2⟩
  refine Ok.bind (ZeZ (n := n) (by omega) ((n - 0).toNat + 1) 0 c1 [] h1 (fun _ h => (by cases h)) (Nat.zero_le _) n0 (by omega)) ?_
  intro l hl
  exact ⟨_, rfl, hl⟩
def Zz (l : List V) : SD := runS SD.zero ((l.take (okN l cmF)).map cmF)
def Za6 (l : List V) : List (Int × Int) := Zey SD.zero ((l.take (okN l cmF)).map cmF)
theorem SD.zero_norm : Norm SD.zero := Norm.zero
theorem SD.zero_vs : VS 0 SD.zero := VS.zero
theorem cmds_ok {l : List V} (hl : ∀ f ∈ l, Zdg (cmF f)) {i : Nat} (hi : i ≤ okN l cmF) : ∀ c ∈ (l.take i).map cmF, CmdV c := fun c hc => by
  obtain ⟨f, hf, rfl⟩ := List.mem_map.1 hc
  obtain ⟨j, hj, rfl⟩ := Zcp hf
  have hle := ZeT l cmF
  rw [List.length_take] at hj
  have e : rd (l.take i) j = rd l j := by simp [rd, List.getD, List.getElem?_take, show j < i by omega]
  rw [e]
  exact cmdB_V (hl _ (ZE (by omega))) (Zj3 (by omega))
theorem ZgY {l : List V} (hl : ∀ f ∈ l, Zdg (cmF f)) (hn : l.length ≤ 400) {i : Nat} (hi : i ≤ okN l cmF) : VS 0 (runS SD.zero ((l.take i).map cmF)) ∧ Norm (runS SD.zero ((l.take i).map cmF)) ∧ (runS SD.zero ((l.take i).map cmF)).idx = (i : Int) := by
  have hle := ZeT l cmF
  have hlen : ((l.take i).map cmF).length = i := by rw [List.length_map, List.length_take]; omega
  obtain ⟨a, b, c⟩ := Zl8 ((l.take i).map cmF) SD.zero_vs SD.zero_norm (cmds_ok hl hi) (by rw [hlen]; show (0 : Int) + (i : Int) ≤ 1000000; omega)
  refine ⟨a, b, ?_⟩
  rw [c, hlen]; show (0 : Int) + (i : Int) = i; omega
theorem ZdS {l : List V} {i : Nat} (h : i < l.length) : (l.take (i + 1)).map cmF = (l.take i).map cmF ++ [cmF (rd l i)] := by
  rw [ZnO h, List.map_append]; rfl
theorem Zox {l : List V} (hl : ∀ f ∈ l, Zdg (cmF f)) (hn : l.length ≤ 400) (b0 : V) (r3 r4 r5 r6 : List V) :
    ∃ b0' r3' r4' r5' r6', Zaf (l.length + 1) l ((l.length : Nat) : Int) 0 b0 (SD.zero.b 7 8 9 10) [] r3 r4 r5 r6 SD.zero.rows SD.zero.tombs SD.zero.sess SD.zero.lasts =
      some (b0', (Zz l).b 7 8 9 10, (Za6 l).map ZbN, r3', r4', r5', r6', (Zz l).rows, (Zz l).tombs, (Zz l).sess, (Zz l).lasts) := by
  have hle := ZeT l cmF
  refine ZcN (σ := V × SD × List (Int × Int)) (F := fun m q i => Zaf m l ((l.length : Nat) : Int) i q.1 (q.2.1.b 7 8 9 10) (q.2.2.map ZbN) r3 r4 r5 r6 q.2.1.rows q.2.1.tombs q.2.1.sess q.2.1.lasts) (n := l.length)
    (fun i q => i ≤ okN l cmF ∧ q.2.1 = runS SD.zero ((l.take i).map cmF) ∧ q.2.2 = Zey SD.zero ((l.take i).map cmF))
    (fun o => ∃ b0' r3' r4' r5' r6', o = some (b0', (Zz l).b 7 8 9 10, (Za6 l).map ZbN, r3', r4', r5', r6', (Zz l).rows, (Zz l).tombs, (Zz l).sess, (Zz l).lasts)) ?_ ?_ (s := (b0, SD.zero, [])) ⟨Nat.zero_le _, rfl, rfl⟩
  · rintro m i ⟨b, s, R⟩ hi ⟨h1, h2, h3⟩
    have h2 : s = runS SD.zero ((l.take i).map cmF) := h2
    have h3 : R = Zey SD.zero ((l.take i).map cmF) := h3
    have hw := hl _ (ZE hi)
    have hce : ZcU (cmF (rd l i)) = some (Zcz (cmF (rd l i))) := Zg9 hw
    by_cases hlt : i < okN l cmF
    · have hok := Zj3 hlt
      obtain ⟨g1, g2, g3⟩ := ZgY hl hn (i := i) (by omega)
      rw [← h2] at g1 g2 g3
      have hap := Zov g1 (show s.idx < 1000000 by omega) hw hok
      have hRl : R.length = i := by rw [h3, ZiQ, List.length_map, List.length_take]; omega
      refine .inl ⟨((V.agg [(V.int .i64 (gi b 0)), (V.sl 3 Zg 0 none), (V.sl 4 Zf 0 none), (V.int .i64 (gi b 3)), (V.sl 5 Zd 0 none), (V.sl 6 Ze 0 none)]), (s.apply (cmF (rd l i))).2, R ++ [(s.apply (cmF (rd l i))).1]), ?_, by omega, ?_, ?_⟩
      · show Zaf (m + 1) l ((l.length : Nat) : Int) (i : Int) b (s.b 7 8 9 10) (R.map ZbN) r3 r4 r5 r6 s.rows s.tombs s.sess s.lasts = _
        rw [Zaf, ZaD hi, Zp hi, Int.toNat_natCast]
        simp only [cond_true]
        refine Eq.trans (congrArg (fun o => Option.bind o _) (show _ = _ from hce)) ?_
        rw [hok, Zow]
        simp only [Option.bind_some, Bool.not_true, cond_false]
        refine Eq.trans (congrArg (fun o => Option.bind o _) (show _ = _ from hap)) ?_
        simp only [Option.bind_some]
        rw [List.length_map, hRl, ZdI (by omega) (by omega), Zax hi (by omega)]
        simp only [cond_true, List.map_append, List.map_cons, List.map_nil]
        rfl
      · show (s.apply (cmF (rd l i))).2 = _
        rw [ZdS hi, ZkJ, ← h2]
      · show R ++ [(s.apply (cmF (rd l i))).1] = _
        rw [ZdS hi, ZkK, ← h2, ← h3]
    · have e : i = okN l cmF := by omega
      have hno : Zcz (cmF (rd l i)) = false := by rw [e]; exact Zkn (by omega)
      refine .inr ⟨(V.agg [(V.int .i64 (gi b 0)), (V.sl 3 Zg 0 none), (V.sl 4 Zf 0 none), (V.int .i64 (gi b 3)), (V.sl 5 Zd 0 none), (V.sl 6 Ze 0 none)]), r3, r4, r5, r6, ?_⟩
      show Zaf (m + 1) l ((l.length : Nat) : Int) (i : Int) b (s.b 7 8 9 10) (R.map ZbN) r3 r4 r5 r6 s.rows s.tombs s.sess s.lasts = _
      rw [Zaf, ZaD hi, Zp hi, Int.toNat_natCast]
      simp only [cond_true]
      refine Eq.trans (congrArg (fun o => Option.bind o _) (show _ = _ from hce)) ?_
      rw [hno]
      unfold Zz Za6
      rw [← e, ← h2, ← h3]
      rfl
  · rintro m ⟨b, s, R⟩ ⟨h1, h2, h3⟩
    have h2 : s = runS SD.zero ((l.take l.length).map cmF) := h2
    have h3 : R = Zey SD.zero ((l.take l.length).map cmF) := h3
    have e : okN l cmF = l.length := by omega
    refine ⟨(V.agg [(V.int .i64 (gi b 0)), (V.sl 3 Zg 0 none), (V.sl 4 Zf 0 none), (V.int .i64 (gi b 3)), (V.sl 5 Zd 0 none), (V.sl 6 Ze 0 none)]), r3, r4, r5, r6, ?_⟩
    show Zaf (m + 1) l ((l.length : Nat) : Int) ((l.length : Nat) : Int) b (s.b 7 8 9 10) (R.map ZbN) r3 r4 r5 r6 s.rows s.tombs s.sess s.lasts = _
    rw [Zaf, Zas]
    unfold Zz Za6
    rw [e, ← h2, ← h3]
    rfl
theorem ZkL {l : List V} (hl : ∀ f ∈ l, Zdg (cmF f)) (hn : l.length ≤ 400) : Zcy l = some ((Zz l).v, (Za6 l).map ZbN) := by
  unfold Zcy
  rw [decide_eq_false (show ¬ (400 : Int) < ((l.length : Nat) : Int) by omega), cond_false, Zbq]
  obtain ⟨b0, r3, r4, r5, r6, e⟩ := Zox hl hn (V.agg [(V.int .i64 0), (V.sl 3 Zg 0 none), (V.sl 4 Zf 0 none), (V.int .i64 0), (V.sl 5 Zd 0 none), (V.sl 6 Ze 0 none)]) [] [] [] []
  refine Eq.trans (congrArg (fun o => Option.bind o _) (show _ = _ from e)) ?_
  rfl
theorem ZfA (l : List V) {n : Nat} (h : n ≤ okN l cmF) : okN (l.take n) cmF = n ∧ (l.take n).take n = l.take n := by
  have hle := ZeT l cmF
  have hlen : (l.take n).length = n := by rw [List.length_take]; omega
  refine ⟨?_, List.take_of_length_le (by omega)⟩
  have h1 := ZeT (l.take n) cmF
  rcases Nat.lt_or_ge (okN (l.take n) cmF) n with c | c
  · have h2 := Zkn (l := l.take n) (cm := cmF) (by omega)
    have e : rd (l.take n) (okN (l.take n) cmF) = rd l (okN (l.take n) cmF) := by simp [rd, List.getD, List.getElem?_take, c]
    rw [e, Zj3 (by omega)] at h2; cases h2
  · omega
theorem ZgZ (l : List V) : (Za6 l).length = okN l cmF := by
  have := ZeT l cmF
  unfold Za6; rw [ZiQ, List.length_map, List.length_take]; omega
theorem ZkM (l : List V) {n : Nat} (h : n ≤ okN l cmF) : Za6 l = Za6 (l.take n) ++ Zey (Zz (l.take n)) (((l.take (okN l cmF)).drop n).map cmF) := by
  obtain ⟨e1, e2⟩ := ZfA l h
  unfold Za6 Zz
  rw [e1, e2, ← ZiP, ← List.map_append]
  congr 2
  have : l.take n = (l.take (okN l cmF)).take n := by rw [List.take_take]; congr 1; omega
  rw [this, List.take_append_drop]
theorem Zma {f : Int × Int → V} {l : List (Int × Int)} {i : Nat} (h : i < l.length) : rd (l.map f) i = f (l[i]) := by
  rw [ZcB (show i < (l.map f).length by rw [List.length_map]; exact h), List.getElem_map]
end Go.Eng.R
