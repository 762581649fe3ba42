/- An own evaluator of the program's form, proved sound, and what it says of this law's functions: part 8. -/
import Derived.Test.YtjhdhgbboomecaaGreatE7
set_option linter.unusedVariables false

open Go Go.Eng Go.Proofs
namespace Go.Eng.R
noncomputable def c23 : Cfg := Zah (P := Tryz.prog) (tab := tab) [] false []
def a23_0 (r_ : List V × Int) : List (Ex × St) := [((Ex.exit 0), (⟨[(0, (V.inl Zc r_.1)), (3, (vi r_.2))], [], 0, []⟩ : St))]
def s23_0 : SS := ⟨[(0, (.one (.inl Zc))), (3, (.one (.int .i64))), (4, (.one (.int .i64)))], [], 0, []⟩
noncomputable def l23_0 : LE := le0 3 s23_0 (fun st => Zb7 ((((((sv st 0).L).length : Nat) : Int) - ((sv st 2).I)).toNat + 1) ((sv st 0).L) ((sv st 1).I) ((sv st 2).I)) a23_0
noncomputable def L23 : Loops := ⟨fun k => (look [(3, [0, 3, 4])] k).getD [], fun _ => [], fun k => (look [(3, [0, 3])] k).getD [], Zbw [l23_0], [], fun _ => []⟩
theorem t23_0 (k_ : Nat) : ∀ (code0 : List V) (h3 : Int) (i4 : Int), Agr id (pk0 a23_0) (Zb7 k_ code0 h3 i4) (ZM c23 L23 (lpB Tryz.f23 0) k_ (s23_0.mk' (stv [V.inl 0 code0, vi h3, vi i4] []))) := by
  induction k_ with
  | zero => exact fun _ _ _ => g0
  | succ k_ ih => exact fun _ _ _ => gA (g1 (g1 (g1 (ih _ _ _) g0) g4) g4) (by kernel_rfl)
theorem o23 : ZI c23 L23 (ZY Tryz.f23) := GoodAll.ok (l := [l23_0]) (.cons 0 (by kernel_rfl) (gd0 (fun st => (((((sv st 0).L).length : Nat) : Int) - ((sv st 2).I)).toNat + 1) (fun st => t23_0 _ _ _ _) fun st => by kernel_rfl) (.nil)) rfl
noncomputable def e23 : En Tryz.prog tab := enP base [] false [] Tryz.func23 (L := L23) o23 [(.one (.inl Zc))] (fun a => Zek ((rd a 0).L)) (fun r_ : V => ((V.nb Zy (l0 r_)), [])) [[(.inl Zc)]] [] [some Zc] false (by kernel_rfl) fun _ => gA (g2 fun _ => g4) (by kernel_rfl)
noncomputable def e54 : En Tryz.prog tab := enP base [] false [] Tryz.func54 Zao [(.rf Zy [(.inl Zc), (.int .i64), (.int .i64)])] (fun a => ZbE ((rd a 0).unbox)) (fun r_ : Int × V => ((vi r_.1), [(V.rf Zy (l0 r_.2))])) [] [[(.inl Zc)]] [none] false (by kernel_rfl) fun _ => gA (g1 (g1 g4 g0) g4) (by kernel_rfl)
set_option maxRecDepth 100000 in
noncomputable def e27 : En Tryz.prog tab := enP base [e54] false [] Tryz.func27 Zao [(.rf Zy [(.inl Zc), (.int .i64), (.int .i64)]), (.one (.int .i64))] (fun a => Zh ((rd a 0).unbox) ((rd a 1).I)) (fun r_ : Int × V => ((vi r_.1), [(V.rf Zy (l0 r_.2))])) [] [[(.inl Zc)]] [none, none] false (by kernel_rfl) fun _ => gA (g1 g4 (g1 (g2 fun _ => g1 g4 g0) (g2 fun _ => g2 fun _ => g2 fun _ => g2 fun _ => g1 g4 g0))) (by kernel_rfl)
noncomputable def e52 : En Tryz.prog tab := enP base [e27] false [] Tryz.func52 Zao [(.rf Zy [(.inl Zc), (.int .i64), (.int .i64)]), (.one (.inl t_int'))] (fun a => ZN ((rd a 0).unbox) ((rd a 1).L)) (fun r_ : Int × V => ((vi r_.1), [(V.rf Zy (l0 r_.2))])) [] [[(.inl Zc)]] [none, some t_int'] false (by kernel_rfl) fun _ => gA (g2 fun _ => g1 g4 g0) (by kernel_rfl)
noncomputable def e107 : En Tryz.prog tab := enP base [e27] false [] Tryz.func107 Zao [(.rf Zy [(.inl Zc), (.int .i64), (.int .i64)])] (fun a => Zco ((rd a 0).unbox)) (fun r_ : List V × V => ((V.inl Zc r_.1), [(V.rf Zy (l0 r_.2))])) [[(.inl Zc)]] [[(.inl Zc)]] [none] false (by kernel_rfl) fun _ => gA (g2 fun _ => g1 g4 g0) (by kernel_rfl)
noncomputable def e39 : En Tryz.prog tab := enP base [e27] false [1000000007] Tryz.func39 Zao [(.rf Zy [(.inl Zc), (.int .i64), (.int .i64)])] (fun a => ZaS ((rd a 0).unbox)) (fun r_ : List V × V => ((V.rr Zc true r_.1), [(V.rf Zy (l0 r_.2))])) [[(.rr Zc true)]] [[(.inl Zc)]] [none] false (by kernel_rfl) fun _ => gA (g2 fun _ => g1 (g1 g4 g0) g0) (by kernel_rfl)
set_option maxRecDepth 100000 in
noncomputable def e78 : En Tryz.prog tab := enP base [e52, e107, e39, e27] false [] Tryz.func78 Zao [(.rf Zy [(.inl Zc), (.int .i64), (.int .i64)]), (.one (.int .i64))] (fun a => ZfY ((rd a 0).unbox) ((rd a 1).I)) (fun r_ : V × V => ((h1 r_.1), [(V.rf Zy (l0 r_.2))])) [[.dead, (.rr Zc true), (.inl Zc)]] [[(.inl Zc)]] [none, none] false (by kernel_rfl) fun _ => gA (g2 fun _ => g1 (g2 fun _ => g1 (g1 (g1 (g2 fun _ => g1 (g2 fun _ => g4) (g1 (g2 fun _ => g2 fun _ => g4) (g1 (g2 fun _ => g1 (g2 fun _ => g4) g4) (g1 (g2 fun _ => g1 (g2 fun _ => g4) g4) (g1 (g2 fun _ => g1 (g2 fun _ => g4) g4) g4))))) (g1 (g2 fun _ => g4) (g1 (g2 fun _ => g2 fun _ => g4) (g1 (g2 fun _ => g1 (g2 fun _ => g4) g4) (g1 (g2 fun _ => g1 (g2 fun _ => g4) g4) (g1 (g2 fun _ => g1 (g2 fun _ => g4) g4) g4)))))) (g1 (g2 fun _ => g4) (g1 (g2 fun _ => g2 fun _ => g4) (g1 (g2 fun _ => g1 (g2 fun _ => g4) g4) (g1 (g2 fun _ => g1 (g2 fun _ => g4) g4) (g1 (g2 fun _ => g1 (g2 fun _ => g4) g4) g4)))))) (g1 (g2 fun _ => g4) (g1 (g2 fun _ => g2 fun _ => g4) (g1 (g2 fun _ => g1 (g2 fun _ => g4) g4) (g1 (g2 fun _ => g1 (g2 fun _ => g4) g4) (g1 (g2 fun _ => g1 (g2 fun _ => g4) g4) g4)))))) (g1 (g2 fun _ => g1 (g1 (g1 (g2 fun _ => g1 (g2 fun _ => g4) (g1 (g2 fun _ => g2 fun _ => g4) (g1 (g2 fun _ => g1 (g2 fun _ => g4) g4) (g1 (g2 fun _ => g1 (g2 fun _ => g4) g4) (g1 (g2 fun _ => g1 (g2 fun _ => g4) g4) g4))))) (g1 (g2 fun _ => g4) (g1 (g2 fun _ => g2 fun _ => g4) (g1 (g2 fun _ => g1 (g2 fun _ => g4) g4) (g1 (g2 fun _ => g1 (g2 fun _ => g4) g4) (g1 (g2 fun _ => g1 (g2 fun _ => g4) g4) g4)))))) (g1 (g2 fun _ => g4) (g1 (g2 fun _ => g2 fun _ => g4) (g1 (g2 fun _ => g1 (g2 fun _ => g4) g4) (g1 (g2 fun _ => g1 (g2 fun _ => g4) g4) (g1 (g2 fun _ => g1 (g2 fun _ => g4) g4) g4)))))) (g1 (g2 fun _ => g4) (g1 (g2 fun _ => g2 fun _ => g4) (g1 (g2 fun _ => g1 (g2 fun _ => g4) g4) (g1 (g2 fun _ => g1 (g2 fun _ => g4) g4) (g1 (g2 fun _ => g1 (g2 fun _ => g4) g4) g4)))))) (g1 (g2 fun _ => g1 (g1 (g1 (g2 fun _ => g1 (g2 fun _ => g4) (g1 (g2 fun _ => g2 fun _ => g4) (g1 (g2 fun _ => g1 (g2 fun _ => g4) g4) (g1 (g2 fun _ => g1 (g2 fun _ => g4) g4) (g1 (g2 fun _ => g1 (g2 fun _ => g4) g4) g4))))) (g1 (g2 fun _ => g4) (g1 (g2 fun _ => g2 fun _ => g4) (g1 (g2 fun _ => g1 (g2 fun _ => g4) g4) (g1 (g2 fun _ => g1 (g2 fun _ => g4) g4) (g1 (g2 fun _ => g1 (g2 fun _ => g4) g4) g4)))))) (g1 (g2 fun _ => g4) (g1 (g2 fun _ => g2 fun _ => g4) (g1 (g2 fun _ => g1 (g2 fun _ => g4) g4) (g1 (g2 fun _ => g1 (g2 fun _ => g4) g4) (g1 (g2 fun _ => g1 (g2 fun _ => g4) g4) g4)))))) (g1 (g2 fun _ => g4) (g1 (g2 fun _ => g2 fun _ => g4) (g1 (g2 fun _ => g1 (g2 fun _ => g4) g4) (g1 (g2 fun _ => g1 (g2 fun _ => g4) g4) (g1 (g2 fun _ => g1 (g2 fun _ => g4) g4) g4)))))) (g1 (g1 (g1 (g2 fun _ => g1 (g2 fun _ => g4) (g1 (g2 fun _ => g2 fun _ => g4) (g1 (g2 fun _ => g1 (g2 fun _ => g4) g4) (g1 (g2 fun _ => g1 (g2 fun _ => g4) g4) (g1 (g2 fun _ => g1 (g2 fun _ => g4) g4) g4))))) (g1 (g2 fun _ => g4) (g1 (g2 fun _ => g2 fun _ => g4) (g1 (g2 fun _ => g1 (g2 fun _ => g4) g4) (g1 (g2 fun _ => g1 (g2 fun _ => g4) g4) (g1 (g2 fun _ => g1 (g2 fun _ => g4) g4) g4)))))) (g1 (g2 fun _ => g4) (g1 (g2 fun _ => g2 fun _ => g4) (g1 (g2 fun _ => g1 (g2 fun _ => g4) g4) (g1 (g2 fun _ => g1 (g2 fun _ => g4) g4) (g1 (g2 fun _ => g1 (g2 fun _ => g4) g4) g4)))))) (g1 (g2 fun _ => g4) (g1 (g2 fun _ => g2 fun _ => g4) (g1 (g2 fun _ => g1 (g2 fun _ => g4) g4) (g1 (g2 fun _ => g1 (g2 fun _ => g4) g4) (g1 (g2 fun _ => g1 (g2 fun _ => g4) g4) g4))))))))) (by kernel_rfl)
noncomputable def e26 : En Tryz.prog tab := enP base [e27] false [] Tryz.func26 Zao [(.rf Zy [(.inl Zc), (.int .i64), (.int .i64)]), (.one (.int .i64))] (fun a => ZH ((rd a 0).unbox) ((rd a 1).I)) (fun r_ : Bool × V => ((V.bool r_.1), [(V.rf Zy (l0 r_.2))])) [] [[(.inl Zc)]] [none, none] false (by kernel_rfl) fun _ => gA (g2 fun _ => g4) (by kernel_rfl)
noncomputable def c44 : Cfg := Zah (P := Tryz.prog) (tab := tab) [] false []
def a44_0 (r_ : Nat × Int) : List (Ex × St) := [(Ex.ret, (⟨[(4, (vi r_.2))], [], 0, []⟩ : St)), ((Ex.exit 0), (⟨[(4, V.dead)], [], 0, []⟩ : St))]
def s44_0 : SS := ⟨[(1, (.one (.inl Zc))), (2, (.one (.bp 0 0))), (5, (.one (.int .i64)))], [(.box Zj q2)], 1, []⟩
noncomputable def l44_0 : LE := le1 2 s44_0 (fun st => Zb8 (((((gl (bc st 0) 1).length : Nat) : Int) - ((sv st 2).I)).toNat + 1) ((sv st 0).L) ((sv st 2).I) (bc st 0)) a44_0
noncomputable def L44 : Loops := ⟨fun k => (look [(2, [1, 2, 5])] k).getD [], fun _ => [], fun k => (look [(2, [4])] k).getD [], Zbw [l44_0], [], fun _ => []⟩
theorem t44_0 (k_ : Nat) : ∀ (key1 : List V) (i5 : Int) (b0 : V), Agr id (pk1 a44_0) (Zb8 k_ key1 i5 b0) (ZM c44 L44 (lpB Tryz.f44 0) k_ (s44_0.mk' (stv [V.inl 0 key1, .dead, vi i5] [bx b0]))) := by
  induction k_ with
  | zero => exact fun _ _ _ => g0
  | succ k_ ih => exact fun _ _ _ => gA (g1 (g1 (g1 g4 (ih _ _ _)) g0) g4) (by kernel_rfl)
theorem o44 : ZI c44 L44 (ZY Tryz.f44) := GoodAll.ok (l := [l44_0]) (.cons 0 (by kernel_rfl) (gd1 (fun st => ((((gl (bc st 0) 1).length : Nat) : Int) - ((sv st 2).I)).toNat + 1) (fun st => t44_0 _ _ _ _) fun st => by kernel_rfl) (.nil)) rfl
noncomputable def e44 : En Tryz.prog tab := enP base [] false [] Tryz.func44 (L := L44) o44 [(.agg q2), (.one (.inl Zc))] (fun a => Zbb (rd a 0) ((rd a 1).L)) (fun r_ : Int => ((vi r_), [])) [] [] [none, some Zc] false (by kernel_rfl) fun _ => gA (g2 fun _ => g1 g4 g4) (by kernel_rfl)
noncomputable def c45 : Cfg := Zah (P := Tryz.prog) (tab := tab) [] false []
def a45_0 (r_ : Nat × Int) : List (Ex × St) := [(Ex.ret, (⟨[(4, (vi r_.2))], [], 0, []⟩ : St)), ((Ex.exit 0), (⟨[(4, V.dead)], [], 0, []⟩ : St))]
def s45_0 : SS := ⟨[(1, (.one (.inl Zc))), (2, (.one (.bp 0 0))), (5, (.one (.int .i64)))], [(.box Zj q2)], 1, []⟩
noncomputable def l45_0 : LE := le1 2 s45_0 (fun st => ZbT (((((gl (bc st 0) 2).length : Nat) : Int) - ((sv st 2).I)).toNat + 1) ((sv st 0).L) ((sv st 2).I) (bc st 0)) a45_0
noncomputable def L45 : Loops := ⟨fun k => (look [(2, [1, 2, 5])] k).getD [], fun _ => [], fun k => (look [(2, [4])] k).getD [], Zbw [l45_0], [], fun _ => []⟩
theorem t45_0 (k_ : Nat) : ∀ (key1 : List V) (i5 : Int) (b0 : V), Agr id (pk1 a45_0) (ZbT k_ key1 i5 b0) (ZM c45 L45 (lpB Tryz.f45 0) k_ (s45_0.mk' (stv [V.inl 0 key1, .dead, vi i5] [bx b0]))) := by
  induction k_ with
  | zero => exact fun _ _ _ => g0
  | succ k_ ih => exact fun _ _ _ => gA (g1 (g1 (g1 g4 (ih _ _ _)) g0) g4) (by kernel_rfl)
theorem o45 : ZI c45 L45 (ZY Tryz.f45) := GoodAll.ok (l := [l45_0]) (.cons 0 (by kernel_rfl) (gd1 (fun st => ((((gl (bc st 0) 2).length : Nat) : Int) - ((sv st 2).I)).toNat + 1) (fun st => t45_0 _ _ _ _) fun st => by kernel_rfl) (.nil)) rfl
noncomputable def e45 : En Tryz.prog tab := enP base [] false [] Tryz.func45 (L := L45) o45 [(.agg q2), (.one (.inl Zc))] (fun a => ZdJ (rd a 0) ((rd a 1).L)) (fun r_ : Int => ((vi r_), [])) [] [] [none, some Zc] false (by kernel_rfl) fun _ => gA (g2 fun _ => g1 g4 g4) (by kernel_rfl)
noncomputable def c43 : Cfg := Zah (P := Tryz.prog) (tab := tab) [] false []
def a43_0 (r_ : Nat × Int) : List (Ex × St) := [(Ex.ret, (⟨[(4, (vi r_.2))], [], 0, []⟩ : St)), ((Ex.exit 0), (⟨[(4, V.dead)], [], 0, []⟩ : St))]
def s43_0 : SS := ⟨[(1, (.one (.int .i64))), (2, (.one (.bp 0 0))), (5, (.one (.int .i64)))], [(.box Zj q2)], 1, []⟩
noncomputable def l43_0 : LE := le1 2 s43_0 (fun st => ZbU (((((gl (bc st 0) 4).length : Nat) : Int) - ((sv st 2).I)).toNat + 1) ((sv st 0).I) ((sv st 2).I) (bc st 0)) a43_0
noncomputable def L43 : Loops := ⟨fun k => (look [(2, [1, 2, 5])] k).getD [], fun _ => [], fun k => (look [(2, [4])] k).getD [], Zbw [l43_0], [], fun _ => []⟩
theorem t43_0 (k_ : Nat) : ∀ (id1 : Int) (i5 : Int) (b0 : V), Agr id (pk1 a43_0) (ZbU k_ id1 i5 b0) (ZM c43 L43 (lpB Tryz.f43 0) k_ (s43_0.mk' (stv [vi id1, .dead, vi i5] [bx b0]))) := by
  induction k_ with
  | zero => exact fun _ _ _ => g0
  | succ k_ ih => exact fun _ _ _ => gA (g1 (g1 (g1 g4 (ih _ _ _)) g0) g4) (by kernel_rfl)
theorem o43 : ZI c43 L43 (ZY Tryz.f43) := GoodAll.ok (l := [l43_0]) (.cons 0 (by kernel_rfl) (gd1 (fun st => ((((gl (bc st 0) 4).length : Nat) : Int) - ((sv st 2).I)).toNat + 1) (fun st => t43_0 _ _ _ _) fun st => by kernel_rfl) (.nil)) rfl
noncomputable def e43 : En Tryz.prog tab := enP base [] false [] Tryz.func43 (L := L43) o43 [(.agg q2), (.one (.int .i64))] (fun a => ZbF (rd a 0) ((rd a 1).I)) (fun r_ : Int => ((vi r_), [])) [] [] [none, none] false (by kernel_rfl) fun _ => gA (g2 fun _ => g1 g4 g4) (by kernel_rfl)
noncomputable def Znc : Cfg := Zah (P := Tryz.prog) (tab := tab) [] false []
def Znd (r_ : V × List V × List V × List V × List V) : List (Ex × St) := [((Ex.exit 0), (⟨[], [(0, some (Blk.box Zj (l3 r_.1))), (1, some (Blk.row Zg false r_.2.1)), (2, some (Blk.row Zf false r_.2.2.1)), (3, some (Blk.row Zd true r_.2.2.2.1)), (4, some (Blk.row Ze true r_.2.2.2.2))], 5, [0]⟩ : St))]
def s127v1_0 : SS := ⟨[(0, (.one (.bp 0 0)))], [(.box Zj q4), (.row Zg false), (.row Zf false), (.row Zd true), (.row Ze true)], 5, [0]⟩
noncomputable def Zne : LE := le0 3 s127v1_0 (fun st => Zcc (((((br st 2).length : Nat) : Int) - 10).toNat + 1) (bc st 0) (br st 1) (br st 2) (br st 3) (br st 4)) Znd
noncomputable def Zlb : Loops := ⟨fun k => (look [(3, [0])] k).getD [], fun _ => [], fun k => (look [(3, [])] k).getD [], Zbw [Zne], [], fun _ => []⟩
theorem t127v1_0 (k_ : Nat) : ∀ (b0 : V) (r1 : List V) (r2 : List V) (r3 : List V) (r4 : List V), Agr id (pk0 Znd) (Zcc k_ b0 r1 r2 r3 r4) (ZM Znc Zlb (lpB Tryz.f127 0) k_ (s127v1_0.mk' (stv [] [bx b0, rb r1, rb r2, rb r3, rb r4]))) := by
  induction k_ with
  | zero => exact fun _ _ _ _ _ => g0
  | succ k_ ih => exact fun b0 r1 r2 r3 r4 => gA (g1 (g1 (g1 (agr_none (O := ZM Znc Zlb (lpB Tryz.f127 0) k_ (⟨[(0, (V.bp 0 0))], [(0, some (Blk.box Zj [(vi (gi b0 0)), (vs 1 Zg), (V.sl 2 Zf 1 (some (r2.length - 1))), (vi (gi (rd r2 0) 1)), (vs 3 Zd), (vs 4 Ze)])), (1, some (Blk.row Zg false r1)), (2, some (Blk.row Zf false r2)), (3, some (Blk.row Zd true r3)), (4, some (Blk.row Ze true r4))], 5, [0]⟩ : St))) g0) g0) g4) (by kernel_rfl)
theorem o127v1 : ZI Znc Zlb (ZY Tryz.f127) := GoodAll.ok (l := [Zne]) (.cons 0 (by kernel_rfl) (gd0 (fun st => ((((br st 2).length : Nat) : Int) - 10).toNat + 1) (fun st => t127v1_0 _ _ _ _ _ _) fun st => by kernel_rfl) (.nil)) rfl
set_option maxRecDepth 100000 in
noncomputable def Znf : En Tryz.prog tab := enP base [] false [] Tryz.func127 (L := Zlb) o127v1 [(.rf Zj q5), (.one (.int .i64))] (fun a => Zda ((rd a 0).unbox) ((rd a 1).I)) (fun r_ : V => ((V.tup []), [(V.rf Zj (l6 r_))])) [] [q7] [none, none] false (by kernel_rfl) fun _ => gA (g1 (g1 (g1 (g1 (g1 (g1 (g1 (g2 fun _ => g4) g0) g0) g0) g0) g0) g0) g0) (by kernel_rfl)
noncomputable def c126v1 : Cfg := Zah (P := Tryz.prog) (tab := tab) [e44, e45] false []
def Zng (r_ : List V × List V × Int × V × List V × List V × List V × List V) : List (Ex × St) := [((Ex.exit 0), (⟨[(0, (V.bp 0 0)), (1, (V.inl Zc r_.1)), (2, (V.inl Zc r_.2.1)), (7, (vi r_.2.2.1))], [(0, some (Blk.box Zj (l3 r_.2.2.2.1))), (1, some (Blk.row Zg false r_.2.2.2.2.1)), (2, some (Blk.row Zf false r_.2.2.2.2.2.1)), (3, some (Blk.row Zd true r_.2.2.2.2.2.2.1)), (4, some (Blk.row Ze true r_.2.2.2.2.2.2.2))], 5, [0]⟩ : St))]
def s126v1_0 : SS := ⟨[(0, (.one (.bp 0 0))), (1, (.one (.inl Zc))), (2, (.one (.inl Zc))), (7, (.one (.int .i64)))], [(.box Zj q4), (.row Zg false), (.row Zf false), (.row Zd true), (.row Ze true)], 5, [0]⟩
noncomputable def Znh : LE := le0 12 s126v1_0 (fun st => Z9 (((((br st 1).length : Nat) : Int) - ((sv st 3).I)).toNat + 1) ((sv st 1).L) ((sv st 2).L) ((sv st 3).I) (bc st 0) (br st 1) (br st 2) (br st 3) (br st 4)) Zng
noncomputable def Zni : Loops := ⟨fun k => (look [(12, [0, 1, 2, 7])] k).getD [], fun _ => [], fun k => (look [(12, [0, 1, 2, 7])] k).getD [], Zbw [Znh], [], fun _ => []⟩
theorem t126v1_0 (k_ : Nat) : ∀ (key1 : List V) (val2 : List V) (i7 : Int) (b0 : V) (r1 : List V) (r2 : List V) (r3 : List V) (r4 : List V), Agr id (pk0 Zng) (Z9 k_ key1 val2 i7 b0 r1 r2 r3 r4) (ZM c126v1 Zni (lpB Tryz.f126 0) k_ (s126v1_0.mk' (stv [.dead, V.inl 0 key1, V.inl 0 val2, vi i7] [bx b0, rb r1, rb r2, rb r3, rb r4]))) := by
  induction k_ with
  | zero => exact fun _ _ _ _ _ _ _ _ => g0
  | succ k_ ih => exact fun _ _ _ _ _ _ _ _ => gA (g1 (g1 (g1 (ih _ _ _ _ _ _ _ _) g4) g0) g4) (by kernel_rfl)
theorem o126v1 : ZI c126v1 Zni (ZY Tryz.f126) := GoodAll.ok (l := [Znh]) (.cons 0 (by kernel_rfl) (gd0 (fun st => ((((br st 1).length : Nat) : Int) - ((sv st 3).I)).toNat + 1) (fun st => t126v1_0 _ _ _ _ _ _ _ _ _) fun st => by kernel_rfl) (.nil)) rfl
set_option maxRecDepth 100000 in
noncomputable def e126v1 : En Tryz.prog tab := enP base [e44, e45] false [] Tryz.func126 (L := Zni) o126v1 [(.rf Zj q5), (.one (.inl Zc)), (.one (.inl Zc))] (fun a => Zaq ((rd a 0).unbox) ((rd a 1).L) ((rd a 2).L)) (fun r_ : Bool × V => ((V.bool r_.1), [(V.rf Zj (l6 r_.2))])) [] [q7] [none, some Zc, some Zc] false (by kernel_rfl) fun _ => gA (g2 fun _ => g1 (g1 (g1 (g1 g4 g0) g0) g0) (g1 g4 (g2 fun _ => g1 (g1 (g1 (g1 (g1 (g2 fun _ => g1 (g1 (g1 (g1 (g1 (g1 (g1 g4 g0) g0) g0) g0) g0) g0) g0) g0) g0) g0) g0) (g2 fun _ => g1 (g1 (g1 (g1 (g1 (g1 (g1 g4 g0) g0) g0) g0) g0) g0) g0)))) (by kernel_rfl)
noncomputable def c128v1 : Cfg := Zah (P := Tryz.prog) (tab := tab) [Znf] false []
def Znj (r_ : V × List V × List V × List V × List V) : List (Ex × St) := [((Ex.exit 0), (⟨[], [(0, some (Blk.box Zj (l3 r_.1))), (1, some (Blk.row Zg false r_.2.1)), (2, some (Blk.row Zf false r_.2.2.1)), (3, some (Blk.row Zd true r_.2.2.2.1)), (4, some (Blk.row Ze true r_.2.2.2.2))], 5, [0]⟩ : St))]
def s128v1_0 : SS := ⟨[(0, (.one (.bp 0 0))), (4, (.one (.bp 1 0))), (5, (.one (.int .i64)))], [(.box Zj q8), (.box Zd [(.int .i64), .bool]), (.row Zg false), (.row Zf false), (.row Zd true), (.row Ze true)], 6, [0]⟩
noncomputable def Znk : LE := le0 3 s128v1_0 (fun st => Zav (((((br st 2).length : Nat) : Int) - ((sv st 2).I)).toNat + 1) ((sv st 2).I) (bc st 0) (bc st 1) (br st 2) (br st 3) (br st 4) (br st 5)) Znj
noncomputable def Znl : Loops := ⟨fun k => (look [(3, [0, 4, 5])] k).getD [], fun _ => [], fun k => (look [(3, [])] k).getD [], Zbw [Znk], [], fun _ => []⟩
set_option maxRecDepth 100000 in
theorem t128v1_0 (k_ : Nat) : ∀ (k5 : Int) (b0 : V) (b1 : V) (r2 : List V) (r3 : List V) (r4 : List V) (r5 : List V), Agr id (pk0 Znj) (Zav k_ k5 b0 b1 r2 r3 r4 r5) (ZM c128v1 Znl (lpB Tryz.f128 0) k_ (s128v1_0.mk' (stv [.dead, .dead, vi k5] [bx b0, bx b1, rb r2, rb r3, rb r4, rb r5]))) := by
  induction k_ with
  | zero => exact fun _ _ _ _ _ _ _ => g0
  | succ k_ ih => exact fun _ _ _ _ _ _ _ => gA (g1 (g1 (g1 (ih _ _ _ _ _ _ _) (g1 (g2 fun _ => ih _ _ _ _ _ _ _) (g1 (g1 (ih _ _ _ _ _ _ _) g0) g0))) g0) g4) (by kernel_rfl)
theorem o128v1 : ZI c128v1 Znl (ZY Tryz.f128) := GoodAll.ok (l := [Znk]) (.cons 0 (by kernel_rfl) (gd0 (fun st => ((((br st 2).length : Nat) : Int) - ((sv st 2).I)).toNat + 1) (fun st => t128v1_0 _ _ _ _ _ _ _ _) fun st => by kernel_rfl) (.nil)) rfl
noncomputable def e128v1 : En Tryz.prog tab := enP base [Znf] false [] Tryz.func128 (L := Znl) o128v1 [(.rf Zj q5), (.one (.int .i64))] (fun a => Zdb ((rd a 0).unbox) ((rd a 1).I)) (fun r_ : V => ((V.tup []), [(V.rf Zj (l6 r_))])) [] [q7] [none, none] false (by kernel_rfl) fun _ => gA (g1 (g1 (g1 (g1 (g1 (g2 fun _ => g4) g0) g0) g0) g0) g0) (by kernel_rfl)
set_option maxRecDepth 100000 in
noncomputable def e108v1 : En Tryz.prog tab := enP base [e44, e126v1, Znf, e43, e128v1] false [] Tryz.func108 Zao [(.rf Zj q5), (.agg q9)] (fun a => Zbj ((rd a 0).unbox) (rd a 1)) (fun r_ : Int × V => ((vi r_.1), [(V.rf Zj (l6 r_.2))])) [] [q7] [none, none] false (by kernel_rfl) fun _ => gA (g1 (g2 fun _ => g1 (g2 fun _ => g1 g4 g4) (g1 (g1 (g1 (g1 g4 (g2 fun _ => g1 g4 g4)) g0) (g1 g4 (g2 fun _ => g1 g4 g4))) (g1 (g1 g4 (g2 fun _ => g4)) (g1 (g1 g4 (g1 (g1 g4 g0) g0)) (g1 (g2 fun _ => g1 g4 (g2 fun _ => g4)) (g1 (g2 fun _ => g1 g4 (g1 (g1 (g1 (g1 (g1 g4 (g2 fun _ => g1 g4 (g2 fun _ => g1 g4 g0))) g0) (g2 fun _ => g1 g4 (g2 fun _ => g1 g4 g0))) g0) (g2 fun _ => g1 g4 (g2 fun _ => g1 g4 g0)))) (g1 (g1 g4 (g1 (g1 g4 (g1 (g1 g4 g0) g0)) g0)) g4))))))) (g1 (g2 fun _ => g1 g4 g4) (g1 (g1 g4 (g2 fun _ => g1 g4 g4)) (g1 g4 (g1 (g1 g4 (g1 (g1 g4 g0) g0)) (g1 (g2 fun _ => g1 g4 (g2 fun _ => g4)) (g1 (g2 fun _ => g1 g4 (g2 fun _ => g1 g4 (g2 fun _ => g1 g4 g0))) (g1 g4 g4)))))))) (by kernel_rfl)
noncomputable def c79v1 : Cfg := Zah (P := Tryz.prog) (tab := tab) [e108v1] false []
def ZoB (r_ : Int × V × V × V × V × List V × List V × List V × List V) : List (Ex × St) := [((Ex.exit 0), (⟨[(0, (V.bp 0 0)), (3, (V.bp 1 0)), (4, (V.bp 2 0)), (5, (V.bp 3 0)), (6, (vi r_.1))], [(0, some (Blk.box Zj (l10 r_.2.1))), (1, some (Blk.box Zla (l11 r_.2.2.1))), (2, some (Blk.box Zfi (l12 r_.2.2.2.1))), (3, some (Blk.box Zfi (l12 r_.2.2.2.2.1))), (4, some (Blk.row Zg false r_.2.2.2.2.2.1)), (5, some (Blk.row Zf false r_.2.2.2.2.2.2.1)), (6, some (Blk.row Zd true r_.2.2.2.2.2.2.2.1)), (7, some (Blk.row Ze true r_.2.2.2.2.2.2.2.2))], 8, [0]⟩ : St))]
def s79v1_0 : SS := ⟨[(0, (.one (.bp 0 0))), (3, (.one (.bp 1 0))), (4, (.one (.bp 2 0))), (5, (.one (.bp 3 0))), (6, (.one (.int .i64)))], [(.box Zj q13), (.box Zla q14), (.box Zfi [(.int .i64), (.int .i64)]), (.box Zfi [(.int .i64), (.int .i64)]), (.row Zg false), (.row Zf false), (.row Zd true), (.row Ze true)], 8, [0]⟩
noncomputable def ZoC : LE := le0 6 s79v1_0 (fun st => Zaj (((((br st 7).length : Nat) : Int) - ((sv st 4).I)).toNat + 1) ((sv st 4).I) (bc st 0) (bc st 1) (bc st 2) (bc st 3) (br st 4) (br st 5) (br st 6) (br st 7)) ZoB
noncomputable def L79v1 : Loops := ⟨fun k => (look [(6, [0, 3, 4, 5, 6])] k).getD [], fun _ => [], fun k => (look [(6, [0, 3, 4, 5, 6])] k).getD [], Zbw [ZoC], [], fun _ => []⟩
theorem t79v1_0 (k_ : Nat) : ∀ (k6 : Int) (b0 : V) (b1 : V) (b2 : V) (b3 : V) (r4 : List V) (r5 : List V) (r6 : List V) (r7 : List V), Agr id (pk0 ZoB) (Zaj k_ k6 b0 b1 b2 b3 r4 r5 r6 r7) (ZM c79v1 L79v1 (lpB Tryz.f79 0) k_ (s79v1_0.mk' (stv [.dead, .dead, .dead, .dead, vi k6] [bx b0, bx b1, bx b2, bx b3, rb r4, rb r5, rb r6, rb r7]))) := by
  induction k_ with
  | zero => exact fun _ _ _ _ _ _ _ _ _ => g0
  | succ k_ ih => exact fun _ _ _ _ _ _ _ _ _ => gA (g1 (g1 (g1 (ih _ _ _ _ _ _ _ _ _) g4) g0) g4) (by kernel_rfl)
theorem o79v1 : ZI c79v1 L79v1 (ZY Tryz.f79) := GoodAll.ok (l := [ZoC]) (.cons 0 (by kernel_rfl) (gd0 (fun st => ((((br st 7).length : Nat) : Int) - ((sv st 4).I)).toNat + 1) (fun st => t79v1_0 _ _ _ _ _ _ _ _ _ _) fun st => by kernel_rfl) (.nil)) rfl
set_option maxRecDepth 100000 in
noncomputable def e79v1 : En Tryz.prog tab := enP base [e108v1] false [] Tryz.func79 (L := L79v1) o79v1 [(.rf Zj q5), (.agg q14)] (fun a => ZJ ((rd a 0).unbox) (rd a 1)) (fun r_ : V × V => ((ZA r_.1), [(V.rf Zj (l6 r_.2))])) [] [q7] [none, none] false (by kernel_rfl) fun _ => gA (g1 g4 (g2 fun _ => g1 (g1 (g1 (g1 (g1 (g1 g4 g0) (g1 (g1 g4 (g2 fun _ => g1 (g1 g4 g0) g0)) g0)) g0) (g2 fun _ => g1 (g1 (g1 (g1 (g1 g4 g0) g0) g0) g0) g0)) g0) (g2 fun _ => g1 (g1 (g1 (g1 (g1 g4 g0) g0) g0) g0) g0))) (by kernel_rfl)
noncomputable def c51 : Cfg := Zah (P := Tryz.prog) (tab := tab) [e27, e78, e26, e79v1] false []
def a51_0 (r_ : V × V × V × List V × List V × List V × List V × List V × List V × List V × List V) : List (Ex × St) := [((Ex.exit 0), (⟨[(2, (V.bp 1 0)), (3, (V.bp 2 0))], [(0, some (Blk.box Zy (l0 r_.1))), (1, some (Blk.box Zj (l15 r_.2.1))), (2, some (Blk.box Zj (l16 r_.2.2.1))), (3, some (Blk.row Zg true r_.2.2.2.1)), (4, some (Blk.row Zf true r_.2.2.2.2.1)), (5, some (Blk.row Zd true r_.2.2.2.2.2.1)), (6, some (Blk.row Ze true r_.2.2.2.2.2.2.1)), (7, some (Blk.row Zg false r_.2.2.2.2.2.2.2.1)), (8, some (Blk.row Zf false r_.2.2.2.2.2.2.2.2.1)), (9, some (Blk.row Zd true r_.2.2.2.2.2.2.2.2.2.1)), (10, some (Blk.row Ze true r_.2.2.2.2.2.2.2.2.2.2))], 11, [0]⟩ : St))]
def s51_0 : SS := ⟨[(0, (.one (.bp 0 0))), (2, (.one (.bp 1 0))), (3, (.one (.bp 2 0))), (4, (.one (.int .i64))), (5, (.one (.int .i64)))], [(.box Zy [(.inl Zc), (.int .i64), (.int .i64)]), (.box Zj q17), (.box Zj q18), (.row Zg true), (.row Zf true), (.row Zd true), (.row Ze true), (.row Zg false), (.row Zf false), (.row Zd true), (.row Ze true)], 11, [0]⟩
noncomputable def l51_0 : LE := le0 4 s51_0 (fun st => ZE ((((sv st 3).I) - ((sv st 4).I)).toNat + 1) ((sv st 3).I) ((sv st 4).I) (bc st 0) (bc st 1) (bc st 2) (br st 3) (br st 4) (br st 5) (br st 6) (br st 7) (br st 8) (br st 9) (br st 10)) a51_0
noncomputable def L51 : Loops := ⟨fun k => (look [(4, [0, 2, 3, 4, 5])] k).getD [], fun k => (look [(4, [⟨2, some 1, true⟩, ⟨2, some 2, true⟩, ⟨2, some 4, true⟩, ⟨2, some 5, true⟩, ⟨3, some 4, true⟩, ⟨3, some 5, true⟩, ⟨3, some 1, false⟩, ⟨3, some 2, false⟩])] k).getD [], fun k => (look [(4, [2, 3])] k).getD [], Zbw [l51_0], [], fun _ => []⟩
set_option maxRecDepth 100000 in
theorem t51_0 (k_ : Nat) : ∀ (n4 : Int) (i5 : Int) (b0 : V) (b1 : V) (b2 : V) (r3 : List V) (r4 : List V) (r5 : List V) (r6 : List V) (r7 : List V) (r8 : List V) (r9 : List V) (r10 : List V), Agr id (pk0 a51_0) (ZE k_ n4 i5 b0 b1 b2 r3 r4 r5 r6 r7 r8 r9 r10) (ZM c51 L51 (lpB Tryz.f51 0) k_ (s51_0.mk' (stv [.dead, .dead, .dead, vi n4, vi i5] [bx b0, bx b1, bx b2, rb r3, rb r4, rb r5, rb r6, rb r7, rb r8, rb r9, rb r10]))) := by
  induction k_ with
  | zero => exact fun _ _ _ _ _ _ _ _ _ _ _ _ _ => g0
  | succ k_ ih => exact fun _ _ _ _ _ _ _ _ _ _ _ _ _ => gA (g1 (g2 fun _ => g2 fun _ => g1 (g2 fun _ => g2 fun _ => g1 (g2 fun _ => ih _ _ _ _ _ _ _ _ _ _ _ _ _) (g2 fun _ => ih _ _ _ _ _ _ _ _ _ _ _ _ _)) (g1 (g1 (g2 fun _ => g1 (g2 fun _ => g1 (g2 fun _ => g1 (g2 fun _ => ih _ _ _ _ _ _ _ _ _ _ _ _ _) (g2 fun _ => ih _ _ _ _ _ _ _ _ _ _ _ _ _)) g0) (g2 fun _ => g1 (g2 fun _ => ih _ _ _ _ _ _ _ _ _ _ _ _ _) (g2 fun _ => ih _ _ _ _ _ _ _ _ _ _ _ _ _))) (g2 fun _ => g1 (g2 fun _ => ih _ _ _ _ _ _ _ _ _ _ _ _ _) (g2 fun _ => ih _ _ _ _ _ _ _ _ _ _ _ _ _))) (g2 fun _ => g1 (g2 fun _ => ih _ _ _ _ _ _ _ _ _ _ _ _ _) (g2 fun _ => ih _ _ _ _ _ _ _ _ _ _ _ _ _)))) g4) (by kernel_rfl)
theorem o51 : ZI c51 L51 (ZY Tryz.f51) := GoodAll.ok (l := [l51_0]) (.cons 0 (by kernel_rfl) (gd0 (fun st => (((sv st 3).I) - ((sv st 4).I)).toNat + 1) (fun st => t51_0 _ _ _ _ _ _ _ _ _ _ _ _ _ _) fun st => by kernel_rfl) (.nil)) rfl
noncomputable def e51 : En Tryz.prog tab := enP base [e27, e78, e26, e79v1] false [] Tryz.func51 (L := L51) o51 [(.rf Zy [(.inl Zc), (.int .i64), (.int .i64)])] (fun a => Zfj ((rd a 0).unbox)) (fun r_ : V × V => ((h19 r_.1), [(V.rf Zy (l0 r_.2))])) [q7] [[(.inl Zc)]] [none] false (by kernel_rfl) fun _ => gA (g2 fun _ => g2 fun _ => g4) (by kernel_rfl)
set_option maxRecDepth 100000 in
noncomputable def e24 : En Tryz.prog tab := enP base [e51, e26, e27, e52, e39] false [] Tryz.func24 Zao [(.rf Zy [(.inl Zc), (.int .i64), (.int .i64)])] (fun a => Zev ((rd a 0).unbox)) (fun r_ : V × V => ((h19 r_.1), [(V.rf Zy (l0 r_.2))])) [q7] [[(.inl Zc)]] [none] false (by kernel_rfl) fun _ => gA (g2 fun _ => g2 fun _ => g1 g4 (g2 fun _ => g1 (g2 fun _ => g4) (g1 (g1 (g2 fun _ => g1 g4 g0) g4) (g1 (g1 (g2 fun _ => g1 g4 g0) g4) (g1 (g2 fun _ => g1 g4 g0) (g1 (g2 fun _ => g4) (g1 (g2 fun _ => g1 g4 g0) (g1 (g2 fun _ => g1 g4 g0) (g1 (g2 fun _ => g1 (g1 g4 g0) g0) g4))))))))) (by kernel_rfl)
set_option maxRecDepth 100000 in
noncomputable def e53 : En Tryz.prog tab := enP base [e78, e26, e27, e52] false [] Tryz.func53 Zao [(.rf Zy [(.inl Zc), (.int .i64), (.int .i64)])] (fun a => ZeE ((rd a 0).unbox)) (fun r_ : V × V => ((h1 r_.1), [(V.rf Zy (l0 r_.2))])) [[.dead, (.rr Zc true), (.inl Zc)]] [[(.inl Zc)]] [none] false (by kernel_rfl) fun _ => gA (g2 fun _ => g2 fun _ => g1 (g2 fun _ => g1 (g2 fun _ => g4) (g1 (g1 g4 g0) (g1 (g2 fun _ => g1 g4 g0) (g2 fun _ => g4)))) g4) (by kernel_rfl)
set_option maxRecDepth 100000 in
noncomputable def e25 : En Tryz.prog tab := enP base [e27, e53, e26, e52] false [] Tryz.func25 Zao [(.rf Zy [(.inl Zc), (.int .i64), (.int .i64)])] (fun a => Zel ((rd a 0).unbox)) (fun r_ : V × V => ((h20 r_.1), [(V.rf Zy (l0 r_.2))])) [q21] [[(.inl Zc)]] [none] false (by kernel_rfl) fun _ => gA (g2 fun _ => g2 fun _ => g2 fun _ => g2 fun _ => g1 (g2 fun _ => g1 (g2 fun _ => g2 fun _ => g1 (g2 fun _ => g4) g4) (g2 fun _ => g1 (g2 fun _ => g4) g4)) (g2 fun _ => g1 (g2 fun _ => g2 fun _ => g1 (g2 fun _ => g4) g4) (g2 fun _ => g1 (g2 fun _ => g4) g4))) (by kernel_rfl)
set_option maxRecDepth 100000 in
noncomputable def e9 : En Tryz.prog tab := enP base [e23, e24, e25, e26, e27] false [] Tryz.func9 Zao [(.one (.inl Zc))] (fun a => Zbm ((rd a 0).L)) (fun r_ : V × V => ((V.tup [(h19 r_.1), (h20 r_.2)]), [])) [q7, q21] [] [some Zc] false (by kernel_rfl) fun _ => gA (g2 fun _ => g2 fun _ => g2 fun _ => g1 (g1 (g2 fun _ => g1 (g2 fun _ => g1 (g2 fun _ => g1 g4 g4) g0) (g2 fun _ => g1 g4 g4)) (g2 fun _ => g1 g4 g4)) (g2 fun _ => g1 g4 g4)) (by kernel_rfl)
noncomputable def e55 : En Tryz.prog tab := enT base [] false [] Tryz.func55 Zao [(.one (.int .i64)), (.one (.int .i64)), (.one (.int .i64))] (fun a => ZQ ((rd a 0).I) ((rd a 1).I) ((rd a 2).I)) (fun r_ : Bool => ((V.bool r_), [])) [] [] [none, none, none] false (by kernel_rfl) fun _ => gT (g5 g7 g7) (by kernel_rfl)
noncomputable def c36 : Cfg := Zah (P := Tryz.prog) (tab := tab) [e55] false []
def a36_0 (r_ : Nat × List V × Bool) : List (Ex × St) := [(Ex.ret, (⟨[(0, (V.inl Zc r_.2.1)), (2, (V.bool r_.2.2))], [], 0, []⟩ : St)), ((Ex.exit 0), (⟨[(0, (V.inl Zc r_.2.1)), (2, V.dead)], [], 0, []⟩ : St))]
def s36_0 : SS := ⟨[(0, (.one (.inl Zc))), (5, (.one (.inl Zc))), (6, (.one (.int .i64))), (7, (.one (.int .i64)))], [], 0, []⟩
noncomputable def l36_0 : LE := le1 2 s36_0 (fun st => Zbu ((((sv st 2).I) - ((sv st 3).I)).toNat + 1) ((sv st 0).L) ((sv st 1).L) ((sv st 2).I) ((sv st 3).I)) a36_0
noncomputable def L36 : Loops := ⟨fun k => (look [(2, [0, 5, 6, 7])] k).getD [], fun _ => [], fun k => (look [(2, [0, 2])] k).getD [], Zbw [l36_0], [], fun _ => []⟩
set_option maxRecDepth 100000 in
theorem t36_0 (k_ : Nat) : ∀ (b0 : List V) (v5 : List V) (v6 : Int) (v7 : Int), Agr id (pk1 a36_0) (Zbu k_ b0 v5 v6 v7) (ZM c36 L36 (lpB Tryz.f36 0) k_ (s36_0.mk' (stv [V.inl 0 b0, V.inl 0 v5, vi v6, vi v7] []))) := by
  induction k_ with
  | zero => exact fun _ _ _ _ => g0
  | succ k_ ih => exact fun _ _ _ _ => gA (g1 (g1 (g1 (g1 g4 (ih _ _ _ _)) (g1 (g1 g4 (ih _ _ _ _)) (ih _ _ _ _))) g0) g4) (by kernel_rfl)
theorem o36 : ZI c36 L36 (ZY Tryz.f36) := GoodAll.ok (l := [l36_0]) (.cons 0 (by kernel_rfl) (gd1 (fun st => (((sv st 2).I) - ((sv st 3).I)).toNat + 1) (fun st => t36_0 _ _ _ _ _) fun st => by kernel_rfl) (.nil)) rfl
noncomputable def e36 : En Tryz.prog tab := enP base [e55] false [] Tryz.func36 (L := L36) o36 [(.one (.inl Zc))] (fun a => ZbI ((rd a 0).L)) (fun r_ : Bool => ((V.bool r_), [])) [] [] [some Zc] false (by kernel_rfl) fun _ => gA (g2 fun _ => g1 g4 g4) (by kernel_rfl)
noncomputable def e56 : En Tryz.prog tab := enT base [] false [] Tryz.func56 Zao [(.one (.inl Zc))] (fun a => Zcw ((rd a 0).L)) (fun r_ : Bool => ((V.bool r_), [])) [] [] [some Zc] false (by kernel_rfl) fun _ => gT g7 (by kernel_rfl)
noncomputable def e77 : En Tryz.prog tab := enT base [] false [] Tryz.func77 Zao [(.agg [(.int .i64), .bool]), (.ep [(.int .i64)] 0)] (fun a => Zfk (rd a 0) ((rd a 1).unbox)) (fun r_ : Bool => ((V.bool r_), [])) [] [] [none] false (by kernel_rfl) fun _ => gT g7 (by kernel_rfl)
noncomputable def c76 : Cfg := Zah (P := Tryz.prog) (tab := tab) [e77] false []
def a76_0 (r_ : Nat × Int) : List (Ex × St) := [(Ex.ret, (⟨[(4, (vi r_.2))], [], 0, []⟩ : St)), ((Ex.exit 0), (⟨[(4, V.dead)], [], 0, []⟩ : St))]
def s76_0 : SS := ⟨[(0, (.one (.inl Zd))), (1, (.fn 77 [[(.int .i64)]])), (7, (.one (.int .i64))), (8, (.one (.int .i64)))], [], 0, []⟩
noncomputable def l76_0 : LE := le1 2 s76_0 (fun st => Zad ((((sv st 2).I) - ((sv st 3).I)).toNat + 1) ((sv st 0).L) ((rd (sv st 1).caps 0).unbox) ((sv st 2).I) ((sv st 3).I)) a76_0
noncomputable def L76 : Loops := ⟨fun k => (look [(2, [0, 1, 7, 8])] k).getD [], fun _ => [], fun k => (look [(2, [4])] k).getD [], Zbw [l76_0], [], fun _ => []⟩
theorem t76_0 (k_ : Nat) : ∀ (s0 : List V) (f1_0 : V) (v7 : Int) (v8 : Int), Agr id (pk1 a76_0) (Zad k_ s0 f1_0 v7 v8) (ZM c76 L76 (lpB Tryz.f76 0) k_ (s76_0.mk' (stv [V.inl 0 s0, V.fn 0 [.ep (V.cells f1_0) 0], vi v7, vi v8] []))) := by
  induction k_ with
  | zero => exact fun _ _ _ _ => g0
  | succ k_ ih => exact fun _ _ _ _ => gA (g1 (g1 (g1 g4 (ih _ _ _ _)) g0) g4) (by kernel_rfl)
theorem o76 : ZI c76 L76 (ZY Tryz.f76) := GoodAll.ok (l := [l76_0]) (.cons 0 (by kernel_rfl) (gd1 (fun st => (((sv st 2).I) - ((sv st 3).I)).toNat + 1) (fun st => t76_0 _ _ _ _ _) fun st => by kernel_rfl) (.nil)) rfl
noncomputable def e76 : En Tryz.prog tab := enP base [e77] false [] Tryz.func76 (L := L76) o76 [(.one (.inl Zd)), (.fn 77 [[(.int .i64)]])] (fun a => Zcx ((rd a 0).L) ((rd (rd a 1).caps 0).unbox)) (fun r_ : Int => ((vi r_), [])) [] [] [some Zd, none] false (by kernel_rfl) fun _ => gA (g2 fun _ => g1 g4 g4) (by kernel_rfl)
noncomputable def e46 : En Tryz.prog tab := enP base [e76] false [] Tryz.func46 Zao [(.agg q2), (.one (.int .i64))] (fun a => Zbk (rd a 0) ((rd a 1).I)) (fun r_ : Int => ((vi r_), [])) [] [] [none, none] false (by kernel_rfl) fun _ => gA (g2 fun _ => g4) (by kernel_rfl)
noncomputable def e57 : En Tryz.prog tab := enCmp base Tryz.func57 (by kernel_rfl) Zc rfl rfl rfl cmp57 [some Zc, some Zc]
noncomputable def e82 : En Tryz.prog tab := enT base [e57] false [] Tryz.func82 Zao [(.agg q22), (.one (.inl Zc))] (fun a => Zdr (rd a 0) ((rd a 1).L)) (fun r_ : Int => ((vi r_), [])) [] [] [none, some Zc] false (by kernel_rfl) fun _ => gT g7 (by kernel_rfl)
noncomputable def c81 : Cfg := Zah (P := Tryz.prog) (tab := tab) [e82] false []
def a81_0 (r_ : List V × List V × Int × Int) : List (Ex × St) := [((Ex.exit 0), (⟨[(0, (V.inl Zg r_.1)), (1, (V.inl Zc r_.2.1)), (2, (V.fn 82 [])), (8, (vi r_.2.2.1)), (9, (vi r_.2.2.2))], [], 0, []⟩ : St))]
def s81_0 : SS := ⟨[(0, (.one (.inl Zg))), (1, (.one (.inl Zc))), (2, (.fn 82 [])), (8, (.one (.int .i64))), (9, (.one (.int .i64))), (10, (.one (.int .i64)))], [], 0, []⟩
noncomputable def l81_0 : LE := le0 3 s81_0 (fun st => ZO ((((sv st 5).I) - ((sv st 4).I)).toNat + 1) ((sv st 0).L) ((sv st 1).L) ((sv st 3).I) ((sv st 4).I) ((sv st 5).I)) a81_0
noncomputable def L81 : Loops := ⟨fun k => (look [(3, [0, 1, 2, 8, 9, 10])] k).getD [], fun _ => [], fun k => (look [(3, [0, 1, 2, 8, 9])] k).getD [], Zbw [l81_0], [], fun _ => []⟩
theorem t81_0 (k_ : Nat) : ∀ (x0 : List V) (target1 : List V) (n8 : Int) (i9 : Int) (j10 : Int), Agr id (pk0 a81_0) (ZO k_ x0 target1 n8 i9 j10) (ZM c81 L81 (lpB Tryz.f81 0) k_ (s81_0.mk' (stv [V.inl 0 x0, V.inl 0 target1, V.fn 0 [], vi n8, vi i9, vi j10] []))) := by
  induction k_ with
  | zero => exact fun _ _ _ _ _ => g0
  | succ k_ ih => exact fun _ _ _ _ _ => gA (g1 (g1 (g1 (ih _ _ _ _ _) (ih _ _ _ _ _)) g0) g4) (by kernel_rfl)
theorem o81 : ZI c81 L81 (ZY Tryz.f81) := GoodAll.ok (l := [l81_0]) (.cons 0 (by kernel_rfl) (gd0 (fun st => (((sv st 5).I) - ((sv st 4).I)).toNat + 1) (fun st => t81_0 _ _ _ _ _ _) fun st => by kernel_rfl) (.nil)) rfl
noncomputable def e81 : En Tryz.prog tab := enP base [e82] false [] Tryz.func81 (L := L81) o81 [(.one (.inl Zg)), (.one (.inl Zc)), (.fn 82 [])] (fun a => Zbn ((rd a 0).L) ((rd a 1).L)) (fun r_ : Int × Bool => ((V.tup [(vi r_.1), (V.bool r_.2)]), [])) [] [] [some Zg, some Zc, none] false (by kernel_rfl) fun _ => gA (g2 fun _ => g1 (g1 g4 g0) g4) (by kernel_rfl)
noncomputable def e58 : En Tryz.prog tab := enP base [e81] false [] Tryz.func58 Zao [(.agg q2), (.one (.inl Zc))] (fun a => Zbz (rd a 0) ((rd a 1).L)) (fun r_ : Int × Bool => ((V.tup [(vi r_.1), (V.bool r_.2)]), [])) [] [] [none, some Zc] false (by kernel_rfl) fun _ => gA (g2 fun _ => g4) (by kernel_rfl)
noncomputable def e85 : En Tryz.prog tab := enT base [] false [] Tryz.func85 Zao [(.one (.inl Zc)), (.one (.inl Zc))] (fun a => Zew ((rd a 0).L) ((rd a 1).L)) (fun r_ : Bool => ((V.bool r_), [])) [] [] [some Zc, some Zc] false (by kernel_rfl) fun _ => gT g7 (by kernel_rfl)
noncomputable def e84 : En Tryz.prog tab := enT base [e85] false [] Tryz.func84 Zao [(.agg [(.inl Zc), (.int .i64)]), (.ep [(.inl Zc)] 0)] (fun a => Zga (rd a 0) ((rd a 1).unbox)) (fun r_ : Bool => ((V.bool r_), [])) [] [] [none] false (by kernel_rfl) fun _ => gT g7 (by kernel_rfl)
noncomputable def c83 : Cfg := Zah (P := Tryz.prog) (tab := tab) [e84] false []
def a83_0 (r_ : Nat × Int) : List (Ex × St) := [(Ex.ret, (⟨[(4, (vi r_.2))], [], 0, []⟩ : St)), ((Ex.exit 0), (⟨[(4, V.dead)], [], 0, []⟩ : St))]
def s83_0 : SS := ⟨[(0, (.one (.inl Zf))), (1, (.fn 84 [[(.inl Zc)]])), (7, (.one (.int .i64))), (8, (.one (.int .i64)))], [], 0, []⟩
noncomputable def l83_0 : LE := le1 2 s83_0 (fun st => Zas ((((sv st 2).I) - ((sv st 3).I)).toNat + 1) ((sv st 0).L) ((rd (sv st 1).caps 0).unbox) ((sv st 2).I) ((sv st 3).I)) a83_0
noncomputable def L83 : Loops := ⟨fun k => (look [(2, [0, 1, 7, 8])] k).getD [], fun _ => [], fun k => (look [(2, [4])] k).getD [], Zbw [l83_0], [], fun _ => []⟩
theorem t83_0 (k_ : Nat) : ∀ (s0 : List V) (f1_0 : V) (v7 : Int) (v8 : Int), Agr id (pk1 a83_0) (Zas k_ s0 f1_0 v7 v8) (ZM c83 L83 (lpB Tryz.f83 0) k_ (s83_0.mk' (stv [V.inl 0 s0, V.fn 0 [.ep (V.cells f1_0) 0], vi v7, vi v8] []))) := by
  induction k_ with
  | zero => exact fun _ _ _ _ => g0
  | succ k_ ih => exact fun _ _ _ _ => gA (g1 (g1 (g1 g4 (ih _ _ _ _)) g0) g4) (by kernel_rfl)
theorem o83 : ZI c83 L83 (ZY Tryz.f83) := GoodAll.ok (l := [l83_0]) (.cons 0 (by kernel_rfl) (gd1 (fun st => (((sv st 2).I) - ((sv st 3).I)).toNat + 1) (fun st => t83_0 _ _ _ _ _) fun st => by kernel_rfl) (.nil)) rfl
noncomputable def e83 : En Tryz.prog tab := enP base [e84] false [] Tryz.func83 (L := L83) o83 [(.one (.inl Zf)), (.fn 84 [[(.inl Zc)]])] (fun a => Zdc ((rd a 0).L) ((rd (rd a 1).caps 0).unbox)) (fun r_ : Int => ((vi r_), [])) [] [] [some Zf, none] false (by kernel_rfl) fun _ => gA (g2 fun _ => g1 g4 g4) (by kernel_rfl)
noncomputable def e59 : En Tryz.prog tab := enP base [e83] false [] Tryz.func59 Zao [(.agg q2), (.one (.inl Zc))] (fun a => ZbJ (rd a 0) ((rd a 1).L)) (fun r_ : Int => ((vi r_), [])) [] [] [none, some Zc] false (by kernel_rfl) fun _ => gA (g2 fun _ => g4) (by kernel_rfl)
noncomputable def c28 : Cfg := Zah (P := Tryz.prog) (tab := tab) [e55, e36, e56, e46, e57, e58, e59] false []
def a28_0 (r_ : Nat × Bool × V) : List (Ex × St) := [(Ex.ret, (⟨[(1, (V.bp 0 0)), (2, (V.bool r_.2.1))], [(0, some (Blk.box Zj (l23 r_.2.2)))], 1, []⟩ : St)), ((Ex.exit 0), (⟨[(1, (V.bp 0 0)), (2, V.dead)], [(0, some (Blk.box Zj (l23 r_.2.2)))], 1, []⟩ : St))]
def s28_0 : SS := ⟨[(1, (.one (.bp 0 0))), (51, (.one (.inl Zg))), (52, (.one (.int .i64))), (53, (.one (.int .i64)))], [(.box Zj q2)], 1, []⟩
noncomputable def l28_0 : LE := le1 4 s28_0 (fun st => ZaG ((((sv st 2).I) - ((sv st 3).I)).toNat + 1) ((sv st 1).L) ((sv st 2).I) ((sv st 3).I) (bc st 0)) a28_0
def a28_1 (r_ : Nat × Bool × V) : List (Ex × St) := [(Ex.ret, (⟨[(1, (V.bp 0 0)), (2, (V.bool r_.2.1))], [(0, some (Blk.box Zj (l23 r_.2.2)))], 1, []⟩ : St)), ((Ex.exit 2), (⟨[(1, (V.bp 0 0)), (2, V.dead)], [(0, some (Blk.box Zj (l23 r_.2.2)))], 1, []⟩ : St))]
def s28_1 : SS := ⟨[(1, (.one (.bp 0 0))), (5, (.one (.int .i64))), (110, (.one (.inl Zf))), (111, (.one (.int .i64))), (112, (.one (.int .i64)))], [(.box Zj q2)], 1, []⟩
noncomputable def l28_1 : LE := le1 11 s28_1 (fun st => ZaY ((((sv st 3).I) - ((sv st 4).I)).toNat + 1) ((sv st 1).I) ((sv st 2).L) ((sv st 3).I) ((sv st 4).I) (bc st 0)) a28_1
def a28_2 (r_ : Nat × Bool × V) : List (Ex × St) := [(Ex.ret, (⟨[(1, (V.bp 0 0)), (2, (V.bool r_.2.1))], [(0, some (Blk.box Zj (l23 r_.2.2)))], 1, []⟩ : St)), ((Ex.exit 4), (⟨[(1, (V.bp 0 0)), (2, V.dead)], [(0, some (Blk.box Zj (l23 r_.2.2)))], 1, []⟩ : St))]
def s28_2 : SS := ⟨[(1, (.one (.bp 0 0))), (152, (.one (.inl Zd))), (153, (.one (.int .i64))), (154, (.one (.int .i64)))], [(.box Zj q2)], 1, []⟩
noncomputable def l28_2 : LE := le1 19 s28_2 (fun st => ZaZ ((((sv st 2).I) - ((sv st 3).I)).toNat + 1) ((sv st 1).L) ((sv st 2).I) ((sv st 3).I) (bc st 0)) a28_2
def a28_3 (r_ : Nat × Bool) : List (Ex × St) := [(Ex.ret, (⟨[(2, (V.bool r_.2))], [], 0, []⟩ : St)), ((Ex.exit 6), (⟨[(2, V.dead)], [], 0, []⟩ : St))]
def s28_3 : SS := ⟨[(1, (.one (.bp 0 0))), (183, (.one (.inl Ze))), (184, (.one (.int .i64))), (185, (.one (.int .i64)))], [(.box Zj q2)], 1, []⟩
noncomputable def l28_3 : LE := le1 25 s28_3 (fun st => Za0 ((((sv st 2).I) - ((sv st 3).I)).toNat + 1) ((sv st 1).L) ((sv st 2).I) ((sv st 3).I) (bc st 0)) a28_3
noncomputable def L28 : Loops := ⟨fun k => (look [(4, [1, 51, 52, 53]), (11, [1, 5, 110, 111, 112]), (19, [1, 152, 153, 154]), (25, [1, 183, 184, 185])] k).getD [], fun _ => [], fun k => (look [(4, [1, 2]), (11, [1, 2]), (19, [1, 2]), (25, [2])] k).getD [], Zbw [l28_0, l28_1, l28_2, l28_3], [], fun _ => []⟩
set_option maxRecDepth 100000 in
theorem t28_0 (k_ : Nat) : ∀ (v51 : List V) (v52 : Int) (v53 : Int) (b0 : V), Agr id (pk1 a28_0) (ZaG k_ v51 v52 v53 b0) (ZM c28 L28 (lpB Tryz.f28 0) k_ (s28_0.mk' (stv [.dead, V.inl 0 v51, vi v52, vi v53] [bx b0]))) := by
  induction k_ with
  | zero => exact fun _ _ _ _ => g0
  | succ k_ ih => exact fun _ _ _ _ => gA (g1 (g1 (g2 fun _ => g1 g4 (g1 g4 (g1 g4 (g1 (g2 fun _ => g1 g4 (g1 (g1 (g1 g4 (ih _ _ _ _)) g0) (ih _ _ _ _))) (g1 (g1 (g1 g4 (ih _ _ _ _)) g0) (ih _ _ _ _)))))) g0) g4) (by kernel_rfl)
set_option maxRecDepth 100000 in
theorem t28_1 (k_ : Nat) : ∀ (before5 : Int) (v110 : List V) (v111 : Int) (v112 : Int) (b0 : V), Agr id (pk1 a28_1) (ZaY k_ before5 v110 v111 v112 b0) (ZM c28 L28 (lpB Tryz.f28 1) k_ (s28_1.mk' (stv [.dead, vi before5, V.inl 0 v110, vi v111, vi v112] [bx b0]))) := by
  induction k_ with
  | zero => exact fun _ _ _ _ _ => g0
  | succ k_ ih => exact fun _ _ _ _ _ => gA (g1 (g1 (g2 fun _ => g1 g4 (g2 fun _ => g1 g4 (g2 fun _ => g1 g4 (g1 g4 (ih _ _ _ _ _))))) g0) g4) (by kernel_rfl)
set_option maxRecDepth 100000 in
theorem t28_2 (k_ : Nat) : ∀ (v152 : List V) (v153 : Int) (v154 : Int) (b0 : V), Agr id (pk1 a28_2) (ZaZ k_ v152 v153 v154 b0) (ZM c28 L28 (lpB Tryz.f28 2) k_ (s28_2.mk' (stv [.dead, V.inl 0 v152, vi v153, vi v154] [bx b0]))) := by
  induction k_ with
  | zero => exact fun _ _ _ _ => g0
  | succ k_ ih => exact fun _ _ _ _ => gA (g1 (g1 (g1 g4 (g1 (g1 (g1 g4 (ih _ _ _ _)) g0) (ih _ _ _ _))) g0) g4) (by kernel_rfl)
set_option maxRecDepth 100000 in
theorem t28_3 (k_ : Nat) : ∀ (v183 : List V) (v184 : Int) (v185 : Int) (b0 : V), Agr id (pk1 a28_3) (Za0 k_ v183 v184 v185 b0) (ZM c28 L28 (lpB Tryz.f28 3) k_ (s28_3.mk' (stv [.dead, V.inl 0 v183, vi v184, vi v185] [bx b0]))) := by
  induction k_ with
  | zero => exact fun _ _ _ _ => g0
  | succ k_ ih => exact fun _ _ _ _ => gA (g1 (g1 (g1 g4 (g1 g4 (g1 g4 (g1 g4 (g1 (g1 (g1 g4 (ih _ _ _ _)) g0) (ih _ _ _ _)))))) g0) g4) (by kernel_rfl)
theorem o28 : ZI c28 L28 (ZY Tryz.f28) := GoodAll.ok (l := [l28_0, l28_1, l28_2, l28_3]) (.cons 0 (by kernel_rfl) (gd1 (fun st => (((sv st 2).I) - ((sv st 3).I)).toNat + 1) (fun st => t28_0 _ _ _ _ _) fun st => by kernel_rfl) (.cons 1 (by kernel_rfl) (gd1 (fun st => (((sv st 3).I) - ((sv st 4).I)).toNat + 1) (fun st => t28_1 _ _ _ _ _ _) fun st => by kernel_rfl) (.cons 2 (by kernel_rfl) (gd1 (fun st => (((sv st 2).I) - ((sv st 3).I)).toNat + 1) (fun st => t28_2 _ _ _ _ _) fun st => by kernel_rfl) (.cons 3 (by kernel_rfl) (gd1 (fun st => (((sv st 2).I) - ((sv st 3).I)).toNat + 1) (fun st => t28_3 _ _ _ _ _) fun st => by kernel_rfl) (.nil))))) rfl
set_option maxRecDepth 100000 in
noncomputable def e28 : En Tryz.prog tab := enP base [e55, e36, e56, e46, e57, e58, e59] false [] Tryz.func28 (L := L28) o28 [(.agg q2)] (fun a => Zd6 (rd a 0)) (fun r_ : Bool => ((V.bool r_), [])) [] [] [none] false (by kernel_rfl) fun _ => gA (g1 g4 (g1 g4 (g1 g4 (g1 g4 (g1 g4 (g1 g4 (g2 fun _ => g1 g4 (g2 fun _ => g1 g4 (g2 fun _ => g1 g4 (g2 fun _ => g1 g4 g4)))))))))) (by kernel_rfl)
noncomputable def e61 : En Tryz.prog tab := enT base [] false [] Tryz.func61 Zao [] (fun a => ZgV) (fun r_ : V => ((h24 r_), [])) [q25] [] [] false (by kernel_rfl) fun _ => gT g7 (by kernel_rfl)
noncomputable def e86 : En Tryz.prog tab := enT base [e85] false [] Tryz.func86 Zao [(.agg q9), (.agg q9)] (fun a => ZgF (rd a 0) (rd a 1)) (fun r_ : Bool => ((V.bool r_), [])) [] [] [none, none] false (by kernel_rfl) fun _ => gT (g5 (g5 (g5 g7 g7) g7) g7) (by kernel_rfl)
noncomputable def e60 : En Tryz.prog tab := enT base [e86] false [] Tryz.func60 Zao [(.agg q14), (.agg q14)] (fun a => ZeF (rd a 0) (rd a 1)) (fun r_ : Bool => ((V.bool r_), [])) [] [] [none, none] false (by kernel_rfl) fun _ => gT (g5 (g5 g7 g7) g7) (by kernel_rfl)
set_option maxRecDepth 100000 in
noncomputable def e62 : En Tryz.prog tab := enP base [e55, e36, e56] false [] Tryz.func62 Zao [(.agg q9)] (fun a => ZgW (rd a 0)) (fun r_ : Bool => ((V.bool r_), [])) [] [] [none] false (by kernel_rfl) fun _ => gA (g1 (g1 (g1 g4 g4) g4) (g1 (g1 (g2 fun _ => g1 (g1 g4 g4) g4) g4) (g1 (g1 (g2 fun _ => g1 (g1 g4 g4) g4) g4) (g1 (g1 (g2 fun _ => g1 g4 g4) g4) (g1 (g1 (g1 g4 g4) g4) (g1 (g1 (g1 g4 g4) g4) (g1 (g1 (g2 fun _ => g1 (g1 g4 g4) g4) g4) (g1 (g1 (g2 fun _ => g1 g4 g4) g4) g4)))))))) (by kernel_rfl)
noncomputable def e29 : En Tryz.prog tab := enP base [e61, e60, e55, e62] false [] Tryz.func29 Zao [(.agg q14)] (fun a => Zem (rd a 0)) (fun r_ : Bool => ((V.bool r_), [])) [] [] [none] false (by kernel_rfl) fun _ => gA (g1 g4 (g1 (g1 (g2 fun _ => g4) g4) g4)) (by kernel_rfl)
noncomputable def e63 : En Tryz.prog tab := enN base [] false [] Tryz.func63 Zao Zg Zcy (fun r_ : List V => ((V.rr Zg false r_), [])) [[(.rr Zg false)]] [] [some Zg] false (by kernel_rfl) (fun _ => gA (g1 g4 g0) (by kernel_rfl)) (by
  have h : Zff (wkF [[(.rr Zg false)]] []) (Zah (P := Tryz.prog) (tab := tab) [] false []) noL Tryz.f63 [V.nl Zg] = (some (wkF [[(.rr Zg false)]] [] ((V.nil Zg), []))) := by kernel_rfl
  rw [h, Zcy]
  clear h
  intro r h; revert h; simp only [List.length_nil]; intro h; first | (cases h; kernel_rfl) | (revert h; simp [Zw]; intro h; subst h; kernel_rfl))
noncomputable def e64 : En Tryz.prog tab := enN base [] false [] Tryz.func64 Zao Zf Zcd (fun r_ : List V => ((V.rr Zf false r_), [])) [[(.rr Zf false)]] [] [some Zf] false (by kernel_rfl) (fun _ => gA (g1 g4 g0) (by kernel_rfl)) (by
  have h : Zff (wkF [[(.rr Zf false)]] []) (Zah (P := Tryz.prog) (tab := tab) [] false []) noL Tryz.f64 [V.nl Zf] = (some (wkF [[(.rr Zf false)]] [] ((V.nil Zf), []))) := by kernel_rfl
  rw [h, Zcd]
  clear h
  intro r h; revert h; simp only [List.length_nil]; intro h; first | (cases h; kernel_rfl) | (revert h; simp [Zw]; intro h; subst h; kernel_rfl))
noncomputable def e65 : En Tryz.prog tab := enN base [] false [] Tryz.func65 Zao Zd ZbK (fun r_ : List V => ((V.rr Zd true r_), [])) [[(.rr Zd true)]] [] [some Zd] false (by kernel_rfl) (fun _ => gA (g1 g4 g0) (by kernel_rfl)) (by
  have h : Zff (wkF [[(.rr Zd true)]] []) (Zah (P := Tryz.prog) (tab := tab) [] false []) noL Tryz.f65 [V.nl Zd] = (some (wkF [[(.rr Zd true)]] [] ((V.nil Zd), []))) := by kernel_rfl
  rw [h, ZbK]
  clear h
  intro r h; revert h; simp only [List.length_nil]; intro h; first | (cases h; kernel_rfl) | (revert h; simp [Zw]; intro h; subst h; kernel_rfl))
noncomputable def e66 : En Tryz.prog tab := enN base [] false [] Tryz.func66 Zao Ze Zce (fun r_ : List V => ((V.rr Ze true r_), [])) [[(.rr Ze true)]] [] [some Ze] false (by kernel_rfl) (fun _ => gA (g1 g4 g0) (by kernel_rfl)) (by
  have h : Zff (wkF [[(.rr Ze true)]] []) (Zah (P := Tryz.prog) (tab := tab) [] false []) noL Tryz.f66 [V.nl Ze] = (some (wkF [[(.rr Ze true)]] [] ((V.nil Ze), []))) := by kernel_rfl
  rw [h, Zce]
  clear h
  intro r h; revert h; simp only [List.length_nil]; intro h; first | (cases h; kernel_rfl) | (revert h; simp [Zw]; intro h; subst h; kernel_rfl))
noncomputable def e67 : En Tryz.prog tab := enN base [] false [] Tryz.func67 Zao Zc Zaa (fun r_ : List V => ((V.rr Zc true r_), [])) [[(.rr Zc true)]] [] [some Zc] false (by kernel_rfl) (fun _ => gA (g1 g4 g0) (by kernel_rfl)) (by
  have h : Zff (wkF [[(.rr Zc true)]] []) (Zah (P := Tryz.prog) (tab := tab) [] false []) noL Tryz.f67 [V.nl Zc] = (some (wkF [[(.rr Zc true)]] [] ((V.nil Zc), []))) := by kernel_rfl
  rw [h, Zaa]
  clear h
  intro r h; revert h; simp only [List.length_nil]; intro h; first | (cases h; kernel_rfl) | (revert h; simp [Zw]; intro h; subst h; kernel_rfl))
noncomputable def c30 : Cfg := Zah (P := Tryz.prog) (tab := tab) [e63, e64, e65, e66, e67] false []
def a30_0 (r_ : V × V × List V × List V × List V × List V × List V × List V × List V × List V) : List (Ex × St) := [((Ex.exit 0), (⟨[(1, (V.bp 0 0)), (2, (V.bp 1 0))], [(0, some (Blk.box Zj (l26 r_.1))), (1, some (Blk.box Zj (l27 r_.2.1))), (2, some (Blk.row Zg false r_.2.2.1)), (3, some (Blk.row Zf false r_.2.2.2.1)), (4, some (Blk.row Zd true r_.2.2.2.2.1)), (5, some (Blk.row Ze true r_.2.2.2.2.2.1)), (6, some (Blk.row Zg true r_.2.2.2.2.2.2.1)), (7, some (Blk.row Zf true r_.2.2.2.2.2.2.2.1)), (8, some (Blk.row Zd true r_.2.2.2.2.2.2.2.2.1)), (9, some (Blk.row Ze true r_.2.2.2.2.2.2.2.2.2))], 10, []⟩ : St))]
def s30_0 : SS := ⟨[(1, (.one (.bp 0 0))), (2, (.one (.bp 1 0))), (24, (.one (.sl 2 Zg))), (25, (.one (.int .i64))), (26, (.one (.int .i64)))], [(.box Zj q8), (.box Zj q28), (.row Zg false), (.row Zf false), (.row Zd true), (.row Ze true), (.row Zg true), (.row Zf true), (.row Zd true), (.row Ze true)], 10, []⟩
noncomputable def l30_0 : LE := le0 3 s30_0 (fun st => Za9 ((((sv st 3).I) - ((sv st 4).I)).toNat + 1) ((sv st 3).I) ((sv st 4).I) (bc st 0) (bc st 1) (br st 2) (br st 3) (br st 4) (br st 5) (br st 6) (br st 7) (br st 8) (br st 9)) a30_0
def a30_1 (r_ : V × V × List V × List V × List V × List V × List V × List V × List V × List V) : List (Ex × St) := [((Ex.exit 2), (⟨[(1, (V.bp 0 0)), (2, (V.bp 1 0))], [(0, some (Blk.box Zj (l26 r_.1))), (1, some (Blk.box Zj (l27 r_.2.1))), (2, some (Blk.row Zg false r_.2.2.1)), (3, some (Blk.row Zf false r_.2.2.2.1)), (4, some (Blk.row Zd true r_.2.2.2.2.1)), (5, some (Blk.row Ze true r_.2.2.2.2.2.1)), (6, some (Blk.row Zg true r_.2.2.2.2.2.2.1)), (7, some (Blk.row Zf true r_.2.2.2.2.2.2.2.1)), (8, some (Blk.row Zd true r_.2.2.2.2.2.2.2.2.1)), (9, some (Blk.row Ze true r_.2.2.2.2.2.2.2.2.2))], 10, []⟩ : St))]
def s30_1 : SS := ⟨[(1, (.one (.bp 0 0))), (2, (.one (.bp 1 0))), (49, (.one (.sl 2 Zf))), (50, (.one (.int .i64))), (51, (.one (.int .i64)))], [(.box Zj q29), (.box Zj q28), (.row Zf false), (.row Zg false), (.row Zd true), (.row Ze true), (.row Zg true), (.row Zf true), (.row Zd true), (.row Ze true)], 10, []⟩
noncomputable def l30_1 : LE := le0 8 s30_1 (fun st => Zba ((((sv st 3).I) - ((sv st 4).I)).toNat + 1) ((sv st 3).I) ((sv st 4).I) (bc st 0) (bc st 1) (br st 2) (br st 3) (br st 4) (br st 5) (br st 6) (br st 7) (br st 8) (br st 9)) a30_1
noncomputable def L30 : Loops := ⟨fun k => (look [(3, [1, 2, 24, 25, 26]), (8, [1, 2, 49, 50, 51])] k).getD [], fun k => (look [(3, [⟨2, some 1, true⟩, ⟨2, some 2, true⟩, ⟨2, some 4, true⟩, ⟨2, some 5, true⟩])] k).getD [], fun k => (look [(3, [1, 2]), (8, [1, 2])] k).getD [], Zbw [l30_0, l30_1], [], fun _ => []⟩
theorem t30_0 (k_ : Nat) : ∀ (v25 : Int) (v26 : Int) (b0 : V) (b1 : V) (r2 : List V) (r3 : List V) (r4 : List V) (r5 : List V) (r6 : List V) (r7 : List V) (r8 : List V) (r9 : List V), Agr id (pk0 a30_0) (Za9 k_ v25 v26 b0 b1 r2 r3 r4 r5 r6 r7 r8 r9) (ZM c30 L30 (lpB Tryz.f30 0) k_ (s30_0.mk' (stv [.dead, .dead, .dead, vi v25, vi v26] [bx b0, bx b1, rb r2, rb r3, rb r4, rb r5, rb r6, rb r7, rb r8, rb r9]))) := by
  induction k_ with
  | zero => exact fun _ _ _ _ _ _ _ _ _ _ _ _ => g0
  | succ k_ ih => exact fun _ _ _ _ _ _ _ _ _ _ _ _ => gA (g1 (g1 (g2 fun _ => g2 fun _ => g1 (g1 (ih _ _ _ _ _ _ _ _ _ _ _ _) g0) g0) g0) g4) (by kernel_rfl)
theorem t30_1 (k_ : Nat) : ∀ (v50 : Int) (v51 : Int) (b0 : V) (b1 : V) (r2 : List V) (r3 : List V) (r4 : List V) (r5 : List V) (r6 : List V) (r7 : List V) (r8 : List V) (r9 : List V), Agr id (pk0 a30_1) (Zba k_ v50 v51 b0 b1 r2 r3 r4 r5 r6 r7 r8 r9) (ZM c30 L30 (lpB Tryz.f30 1) k_ (s30_1.mk' (stv [.dead, .dead, .dead, vi v50, vi v51] [bx b0, bx b1, rb r2, rb r3, rb r4, rb r5, rb r6, rb r7, rb r8, rb r9]))) := by
  induction k_ with
  | zero => exact fun _ _ _ _ _ _ _ _ _ _ _ _ => g0
  | succ k_ ih => exact fun _ _ _ _ _ _ _ _ _ _ _ _ => gA (g1 (g1 (g2 fun _ => g1 (ih _ _ _ _ _ _ _ _ _ _ _ _) g0) g0) g4) (by kernel_rfl)
theorem o30 : ZI c30 L30 (ZY Tryz.f30) := GoodAll.ok (l := [l30_0, l30_1]) (.cons 0 (by kernel_rfl) (gd0 (fun st => (((sv st 3).I) - ((sv st 4).I)).toNat + 1) (fun st => t30_0 _ _ _ _ _ _ _ _ _ _ _ _ _) fun st => by kernel_rfl) (.cons 1 (by kernel_rfl) (gd0 (fun st => (((sv st 3).I) - ((sv st 4).I)).toNat + 1) (fun st => t30_1 _ _ _ _ _ _ _ _ _ _ _ _ _) fun st => by kernel_rfl) (.nil))) rfl
noncomputable def e30 : En Tryz.prog tab := enP base [e63, e64, e65, e66, e67] false [] Tryz.func30 (L := L30) o30 [(.agg q2)] (fun a => Zcp (rd a 0)) (fun r_ : V => ((h19 r_), [])) [q7] [] [none] false (by kernel_rfl) fun _ => gA (g2 fun _ => g2 fun _ => g2 fun _ => g2 fun _ => g2 fun _ => g2 fun _ => g4) (by kernel_rfl)
noncomputable def e88 : En Tryz.prog tab := enT base [] false [] Tryz.func88 Zao [(.agg q30), (.one (.int .i64))] (fun a => Zcf (rd a 0) ((rd a 1).I)) (fun r_ : Int => ((vi r_), [])) [] [] [none, none] false (by kernel_rfl) fun _ => gT g7 (by kernel_rfl)
noncomputable def c87 : Cfg := Zah (P := Tryz.prog) (tab := tab) [e88] false []
def a87_0 (r_ : List V × Int × Int × Int) : List (Ex × St) := [((Ex.exit 0), (⟨[(0, (V.inl Ze r_.1)), (1, (vi r_.2.1)), (2, (V.fn 88 [])), (8, (vi r_.2.2.1)), (9, (vi r_.2.2.2))], [], 0, []⟩ : St))]
def s87_0 : SS := ⟨[(0, (.one (.inl Ze))), (1, (.one (.int .i64))), (2, (.fn 88 [])), (8, (.one (.int .i64))), (9, (.one (.int .i64))), (10, (.one (.int .i64)))], [], 0, []⟩
noncomputable def l87_0 : LE := le0 3 s87_0 (fun st => ZT ((((sv st 5).I) - ((sv st 4).I)).toNat + 1) ((sv st 0).L) ((sv st 1).I) ((sv st 3).I) ((sv st 4).I) ((sv st 5).I)) a87_0
noncomputable def L87 : Loops := ⟨fun k => (look [(3, [0, 1, 2, 8, 9, 10])] k).getD [], fun _ => [], fun k => (look [(3, [0, 1, 2, 8, 9])] k).getD [], Zbw [l87_0], [], fun _ => []⟩
theorem t87_0 (k_ : Nat) : ∀ (x0 : List V) (target1 : Int) (n8 : Int) (i9 : Int) (j10 : Int), Agr id (pk0 a87_0) (ZT k_ x0 target1 n8 i9 j10) (ZM c87 L87 (lpB Tryz.f87 0) k_ (s87_0.mk' (stv [V.inl 0 x0, vi target1, V.fn 0 [], vi n8, vi i9, vi j10] []))) := by
  induction k_ with
  | zero => exact fun _ _ _ _ _ => g0
  | succ k_ ih => exact fun _ _ _ _ _ => gA (g1 (g1 (g1 (ih _ _ _ _ _) (ih _ _ _ _ _)) g0) g4) (by kernel_rfl)
theorem o87 : ZI c87 L87 (ZY Tryz.f87) := GoodAll.ok (l := [l87_0]) (.cons 0 (by kernel_rfl) (gd0 (fun st => (((sv st 5).I) - ((sv st 4).I)).toNat + 1) (fun st => t87_0 _ _ _ _ _ _) fun st => by kernel_rfl) (.nil)) rfl
noncomputable def e87 : En Tryz.prog tab := enP base [e88] false [] Tryz.func87 (L := L87) o87 [(.one (.inl Ze)), (.one (.int .i64)), (.fn 88 [])] (fun a => ZaX ((rd a 0).L) ((rd a 1).I)) (fun r_ : Int × Bool => ((V.tup [(vi r_.1), (V.bool r_.2)]), [])) [] [] [some Ze, none, none] false (by kernel_rfl) fun _ => gA (g2 fun _ => g1 (g1 g4 g0) g4) (by kernel_rfl)
end Go.Eng.R
open Go Go.Eng Go.Proofs
namespace Go.Eng.R
noncomputable def e68 : En Tryz.prog tab := enP base [e87] false [] Tryz.func68 Zao [(.agg q2), (.one (.int .i64))] (fun a => ZdU (rd a 0) ((rd a 1).I)) (fun r_ : Int × Bool => ((V.tup [(vi r_.1), (V.bool r_.2)]), [])) [] [] [none, none] false (by kernel_rfl) fun _ => gA (g2 fun _ => g4) (by kernel_rfl)
noncomputable def e109m : En Tryz.prog tab := enIns2 base Tryz.func109 (by kernel_rfl) Zg rfl false true 64 rfl ins109 [some Zg, none, some Zg]
noncomputable def e110s : En Tryz.prog tab := enDel base Tryz.func110 (by kernel_rfl) Zf rfl false del110 Zpb [some Zf, none, none]
set_option maxRecDepth 100000 in
noncomputable def e89 : En Tryz.prog tab := enP base [e58, e67, e109m, e59, e110s] false [] Tryz.func89 Zao [(.rf Zj q5), (.one (.inl Zc)), (.one (.inl Zc))] (fun a => Z4 ((rd a 0).unbox) ((rd a 1).L) ((rd a 2).L)) (fun r_ : Bool × V => ((V.bool r_.1), [(V.rf Zj (l6 r_.2))])) [] [q7] [none, some Zc, some Zc] false (by kernel_rfl) fun _ => gA (g2 fun _ => g1 (g1 g4 (g2 fun _ => g2 fun _ => g2 fun _ => g1 (g2 fun _ => g2 fun _ => g1 (g1 g4 g0) g0) (g2 fun _ => g1 (g1 g4 g0) g0))) (g2 fun _ => g1 (g1 g4 g0) g0)) (by kernel_rfl)
noncomputable def e111s : En Tryz.prog tab := enDel base Tryz.func111 (by kernel_rfl) Zg rfl false del111 Zpc [some Zg, none, none]
noncomputable def c90 : Cfg := Zah (P := Tryz.prog) (tab := tab) [e111s, e110s] false []
def a90_0 (r_ : V × List V × List V × List V × List V) : List (Ex × St) := [((Ex.exit 0), (⟨[], [(0, some (Blk.box Zj (l3 r_.1))), (1, some (Blk.row Zg false r_.2.1)), (2, some (Blk.row Zf false r_.2.2.1)), (3, some (Blk.row Zd true r_.2.2.2.1)), (4, some (Blk.row Ze true r_.2.2.2.2))], 5, [0]⟩ : St))]
def s90_0 : SS := ⟨[(0, (.one (.bp 0 0)))], [(.box Zj q4), (.row Zg false), (.row Zf false), (.row Zd true), (.row Ze true)], 5, [0]⟩
noncomputable def l90_0 : LE := le0 2 s90_0 (fun st => Zai (((((br st 2).length : Nat) : Int) - 10).toNat + 1) (bc st 0) (br st 1) (br st 2) (br st 3) (br st 4)) a90_0
noncomputable def L90 : Loops := ⟨fun k => (look [(2, [0])] k).getD [], fun _ => [], fun k => (look [(2, [])] k).getD [], Zbw [l90_0], [], fun _ => []⟩
theorem t90_0 (k_ : Nat) : ∀ (b0 : V) (r1 : List V) (r2 : List V) (r3 : List V) (r4 : List V), Agr id (pk0 a90_0) (Zai k_ b0 r1 r2 r3 r4) (ZM c90 L90 (lpB Tryz.f90 0) k_ (s90_0.mk' (stv [] [bx b0, rb r1, rb r2, rb r3, rb r4]))) := by
  induction k_ with
  | zero => exact fun _ _ _ _ _ => g0
  | succ k_ ih => exact fun _ _ _ _ _ => gA (g1 (g1 (g2 fun _ => ih _ _ _ _ _) g0) g4) (by kernel_rfl)
theorem o90 : ZI c90 L90 (ZY Tryz.f90) := GoodAll.ok (l := [l90_0]) (.cons 0 (by kernel_rfl) (gd0 (fun st => ((((br st 2).length : Nat) : Int) - 10).toNat + 1) (fun st => t90_0 _ _ _ _ _ _) fun st => by kernel_rfl) (.nil)) rfl
noncomputable def e90 : En Tryz.prog tab := enP base [e111s, e110s] false [] Tryz.func90 (L := L90) o90 [(.rf Zj q5), (.one (.int .i64))] (fun a => Zcg ((rd a 0).unbox) ((rd a 1).I)) (fun r_ : V => ((V.tup []), [(V.rf Zj (l6 r_))])) [] [q7] [none, none] false (by kernel_rfl) fun _ => gA (g1 (g1 (g2 fun _ => g2 fun _ => g4) g0) g0) (by kernel_rfl)
noncomputable def e112 : En Tryz.prog tab := enDel base Tryz.func112 (by kernel_rfl) Zd rfl true del112 Zpd [some Zd, none, none]
noncomputable def c91 : Cfg := Zah (P := Tryz.prog) (tab := tab) [e46, e112, e90] false []
def a91_0 (r_ : V × List V × List V × List V × List V) : List (Ex × St) := [((Ex.exit 0), (⟨[], [(0, some (Blk.box Zj (l3 r_.1))), (1, some (Blk.row Zg false r_.2.1)), (2, some (Blk.row Zf false r_.2.2.1)), (3, some (Blk.row Zd true r_.2.2.2.1)), (4, some (Blk.row Ze true r_.2.2.2.2))], 5, [0]⟩ : St))]
def s91_0 : SS := ⟨[(0, (.one (.bp 0 0))), (1, (.one (.int .i64))), (6, (.one .bool)), (7, (.one (.int .i64)))], [(.box Zj q4), (.row Zg false), (.row Zf false), (.row Zd true), (.row Ze true)], 5, [0]⟩
noncomputable def l91_0 : LE := le0 7 s91_0 (fun st => Zak (((((br st 1).length : Nat) : Int) - ((sv st 3).I)).toNat + 1) ((sv st 1).I) ((sv st 2).B) ((sv st 3).I) (bc st 0) (br st 1) (br st 2) (br st 3) (br st 4)) a91_0
noncomputable def L91 : Loops := ⟨fun k => (look [(7, [0, 1, 6, 7])] k).getD [], fun _ => [], fun k => (look [(7, [])] k).getD [], Zbw [l91_0], [], fun _ => []⟩
set_option maxRecDepth 100000 in
theorem t91_0 (k_ : Nat) : ∀ (id1 : Int) (remove6 : Bool) (k7 : Int) (b0 : V) (r1 : List V) (r2 : List V) (r3 : List V) (r4 : List V), Agr id (pk0 a91_0) (Zak k_ id1 remove6 k7 b0 r1 r2 r3 r4) (ZM c91 L91 (lpB Tryz.f91 0) k_ (s91_0.mk' (stv [.dead, vi id1, V.bool remove6, vi k7] [bx b0, rb r1, rb r2, rb r3, rb r4]))) := by
  induction k_ with
  | zero => exact fun _ _ _ _ _ _ _ _ => g0
  | succ k_ ih => exact fun _ _ _ _ _ _ _ _ => gA (g1 (g1 (g1 (ih _ _ _ _ _ _ _ _) (g1 (g2 fun _ => ih _ _ _ _ _ _ _ _) (g1 (g1 (ih _ _ _ _ _ _ _ _) g0) g0))) g0) g4) (by kernel_rfl)
theorem o91 : ZI c91 L91 (ZY Tryz.f91) := GoodAll.ok (l := [l91_0]) (.cons 0 (by kernel_rfl) (gd0 (fun st => ((((br st 1).length : Nat) : Int) - ((sv st 3).I)).toNat + 1) (fun st => t91_0 _ _ _ _ _ _ _ _ _) fun st => by kernel_rfl) (.nil)) rfl
noncomputable def e91 : En Tryz.prog tab := enP base [e46, e112, e90] false [] Tryz.func91 (L := L91) o91 [(.rf Zj q5), (.one (.int .i64))] (fun a => ZcR ((rd a 0).unbox) ((rd a 1).I)) (fun r_ : Int × V => ((vi r_.1), [(V.rf Zj (l6 r_.2))])) [] [q7] [none, none] false (by kernel_rfl) fun _ => gA (g2 fun _ => g1 g4 (g1 (g2 fun _ => g2 fun _ => g4) g0)) (by kernel_rfl)
set_option maxRecDepth 100000 in
noncomputable def e69 : En Tryz.prog tab := enP base [e58, e89, e90, e91, e46] false [] Tryz.func69 Zao [(.rf Zj q5), (.agg q9)] (fun a => ZbO ((rd a 0).unbox) (rd a 1)) (fun r_ : Int × V => ((vi r_.1), [(V.rf Zj (l6 r_.2))])) [] [q7] [none, none] false (by kernel_rfl) fun _ => gA (g2 fun _ => g1 (g1 (g1 (g1 (g1 g4 (g2 fun _ => g1 g4 g4)) (g2 fun _ => g1 g4 g4)) g0) (g1 (g1 g4 (g2 fun _ => g1 g4 g4)) (g2 fun _ => g1 g4 g4))) (g1 (g1 (g1 (g1 (g1 g4 (g2 fun _ => g1 g4 g4)) (g2 fun _ => g1 g4 g4)) g0) (g1 (g1 g4 (g2 fun _ => g1 g4 g4)) (g2 fun _ => g1 g4 g4))) (g1 (g1 g4 (g2 fun _ => g4)) (g1 (g1 g4 (g1 g4 g0)) (g1 (g2 fun _ => g4) (g1 (g2 fun _ => g1 g4 (g1 (g1 (g1 (g1 (g1 g4 (g2 fun _ => g1 g4 (g1 g4 g0))) g0) (g2 fun _ => g1 g4 (g1 g4 g0))) g0) (g2 fun _ => g1 g4 (g1 g4 g0)))) (g1 (g1 g4 (g1 (g1 g4 (g1 (g1 g4 g0) g0)) g0)) g4))))))) (by kernel_rfl)
noncomputable def e70 : En Tryz.prog tab := enIns base Tryz.func70 (by kernel_rfl) Ze rfl true 32 rfl ins70 [some Ze, none, some Ze]
set_option maxRecDepth 100000 in
noncomputable def e31 : En Tryz.prog tab := enP base [e68, e69, e70] false [] Tryz.func31 Zao [(.rf Zj q5), (.agg q14)] (fun a => Zds ((rd a 0).unbox) (rd a 1)) (fun r_ : V × V => ((ZA r_.1), [(V.rf Zj (l6 r_.2))])) [] [q7] [none, none] false (by kernel_rfl) fun _ => gA (g1 g4 (g2 fun _ => g1 (g1 (g1 (g1 g4 g0) (g1 (g1 (g1 g4 (g2 fun _ => g1 (g1 g4 g0) (g2 fun _ => g4))) g0) (g2 fun _ => g1 (g1 g4 g0) (g2 fun _ => g4)))) g0) (g1 (g1 (g1 g4 (g2 fun _ => g1 (g1 g4 g0) (g2 fun _ => g4))) g0) (g2 fun _ => g1 (g1 g4 g0) (g2 fun _ => g4))))) (by kernel_rfl)
noncomputable def e10 : En Tryz.prog tab := enP base [e28, e29, e30, e31] false [] Tryz.func10 Zao [(.agg q2), (.agg q14)] (fun a => ZC (rd a 0) (rd a 1)) (fun r_ : V × V => ((V.tup [(h19 r_.1), (ZA r_.2)]), [])) [q7] [] [none, none] false (by kernel_rfl) fun _ => gA (g2 fun _ => g1 g4 (g2 fun _ => g1 g4 (g1 g4 (g2 fun _ => g2 fun _ => g4)))) (by kernel_rfl)
noncomputable def e11 : En Tryz.prog tab := enB Tryz.func11 (by kernel_rfl) alive11
noncomputable def e20 : En Tryz.prog tab := enT base [] false [] Tryz.func20 Zao [(.one (.inl Zc)), (.one (.inl Zc))] (fun a => Za7 ((rd a 0).L) ((rd a 1).L)) (fun r_ : Bool => ((V.bool r_), [])) [] [] [some Zc, some Zc] false (by kernel_rfl) fun _ => gT g7 (by kernel_rfl)
noncomputable def e40 : En Tryz.prog tab := enT base [] false [] Tryz.func40 Zao [(.one (.int .i64))] (fun a => Zde ((rd a 0).I)) (fun r_ : Bool => ((V.bool r_), [])) [] [] [none] false (by kernel_rfl) fun _ => gT (g5 g7 g7) (by kernel_rfl)
noncomputable def c41 : Cfg := Zah (P := Tryz.prog) (tab := tab) [] false []
def a41_0 (r_ : Nat × Bool) : List (Ex × St) := [(Ex.ret, (⟨[(2, (V.bool r_.2))], [], 0, []⟩ : St)), ((Ex.exit 0), (⟨[(2, V.dead)], [], 0, []⟩ : St))]
def s41_0 : SS := ⟨[(0, (.one (.inl Zc))), (3, (.one (.int .i64)))], [], 0, []⟩
noncomputable def l41_0 : LE := le1 4 s41_0 (fun st => Zbv ((((((sv st 0).L).length : Nat) : Int) - ((sv st 1).I)).toNat + 1) ((sv st 0).L) ((sv st 1).I)) a41_0
noncomputable def L41 : Loops := ⟨fun k => (look [(4, [0, 3])] k).getD [], fun _ => [], fun k => (look [(4, [2])] k).getD [], Zbw [l41_0], [], fun _ => []⟩
set_option maxRecDepth 100000 in
theorem t41_0 (k_ : Nat) : ∀ (b0 : List V) (i3 : Int), Agr id (pk1 a41_0) (Zbv k_ b0 i3) (ZM c41 L41 (lpB Tryz.f41 0) k_ (s41_0.mk' (stv [V.inl 0 b0, vi i3] []))) := by
  induction k_ with
  | zero => exact fun _ _ => g0
  | succ k_ ih => exact fun _ _ => gA (g1 (g1 (g1 (g1 (g1 g4 (ih _ _)) g0) (g1 (g1 (g1 (g1 g4 (ih _ _)) g0) (ih _ _)) g0)) g0) g4) (by kernel_rfl)
theorem o41 : ZI c41 L41 (ZY Tryz.f41) := GoodAll.ok (l := [l41_0]) (.cons 0 (by kernel_rfl) (gd1 (fun st => (((((sv st 0).L).length : Nat) : Int) - ((sv st 1).I)).toNat + 1) (fun st => t41_0 _ _ _) fun st => by kernel_rfl) (.nil)) rfl
noncomputable def e41 : En Tryz.prog tab := enP base [] false [] Tryz.func41 (L := L41) o41 [(.one (.inl Zc))] (fun a => Zb1 ((rd a 0).L)) (fun r_ : Bool => ((V.bool r_), [])) [] [] [some Zc] false (by kernel_rfl) fun _ => gA (g1 g4 (g1 g4 (g2 fun _ => g1 g4 g4))) (by kernel_rfl)
noncomputable def e42 : En Tryz.prog tab := enT base [] false [] Tryz.func42 Zao [(.one (.inl Zc))] (fun a => Zfl ((rd a 0).L)) (fun r_ : Bool => ((V.bool r_), [])) [] [] [some Zc] false (by kernel_rfl) fun _ => gT g7 (by kernel_rfl)
noncomputable def e19 : En Tryz.prog tab := enP base [] false [] Tryz.func19 Zao [(.one (.inl Zc)), (.one (.int .i64))] (fun a => Ze0 ((rd a 0).L) ((rd a 1).I)) (fun r_ : Int => ((vi r_), [])) [] [] [some Zc, none] false (by kernel_rfl) fun _ => gA (g1 g4 (g1 (g1 g4 g0) g0)) (by kernel_rfl)
set_option maxRecDepth 100000 in
noncomputable def e49 : En Tryz.prog tab := enP base [e42, e40, e41] false [] Tryz.func49 Zao [(.agg q9)] (fun a => ZfZ (rd a 0)) (fun r_ : Bool => ((V.bool r_), [])) [] [] [none] false (by kernel_rfl) fun _ => gA (g1 g4 (g1 g4 (g1 g4 (g1 g4 (g1 (g2 fun _ => g1 g4 (g1 (g1 g4 (g1 g4 (g1 g4 (g1 g4 (g1 g4 g4))))) (g1 (g1 g4 (g1 g4 (g1 g4 (g1 g4 (g1 g4 g4))))) (g1 (g1 g4 (g1 g4 (g1 g4 (g1 g4 (g1 g4 (g1 g4 g4)))))) (g1 g4 (g1 g4 (g1 g4 (g1 g4 (g1 g4 g4))))))))) (g1 (g2 fun _ => g1 g4 (g1 (g1 g4 (g1 g4 (g1 g4 (g1 g4 (g1 g4 g4))))) (g1 (g1 g4 (g1 g4 (g1 g4 (g1 g4 (g1 g4 g4))))) (g1 (g1 g4 (g1 g4 (g1 g4 (g1 g4 (g1 g4 (g1 g4 g4)))))) (g1 g4 (g1 g4 (g1 g4 (g1 g4 (g1 g4 g4))))))))) (g1 (g2 fun _ => g1 g4 (g1 (g1 g4 (g1 g4 (g1 g4 (g1 g4 (g1 g4 g4))))) (g1 (g1 g4 (g1 g4 (g1 g4 (g1 g4 (g1 g4 g4))))) (g1 (g1 g4 (g1 g4 (g1 g4 (g1 g4 (g1 g4 (g1 g4 g4)))))) (g1 g4 (g1 g4 (g1 g4 (g1 g4 (g1 g4 g4))))))))) (g1 (g2 fun _ => g1 g4 (g1 (g1 g4 (g1 g4 (g1 g4 (g1 g4 (g1 g4 g4))))) (g1 (g1 g4 (g1 g4 (g1 g4 (g1 g4 (g1 g4 g4))))) (g1 (g1 g4 (g1 g4 (g1 g4 (g1 g4 (g1 g4 (g1 g4 g4)))))) (g1 g4 (g1 g4 (g1 g4 (g1 g4 (g1 g4 g4))))))))) (g1 (g2 fun _ => g1 g4 (g1 (g1 g4 (g1 (g1 g4 (g1 g4 (g1 g4 (g1 g4 (g1 g4 g4))))) (g1 (g1 g4 (g1 g4 (g1 g4 (g1 g4 (g1 g4 g4))))) (g1 (g1 g4 (g1 g4 (g1 g4 (g1 g4 (g1 g4 (g1 g4 g4)))))) (g1 g4 (g1 g4 (g1 g4 (g1 g4 (g1 g4 g4))))))))) (g1 (g1 g4 (g1 g4 (g1 g4 (g1 g4 (g1 g4 g4))))) (g1 (g1 g4 (g1 g4 (g1 g4 (g1 g4 (g1 g4 g4))))) (g1 (g1 g4 (g1 g4 (g1 g4 (g1 g4 (g1 g4 (g1 g4 g4)))))) (g1 g4 (g1 g4 (g1 g4 (g1 g4 (g1 g4 g4)))))))))) (g1 (g1 g4 (g1 (g1 g4 (g1 g4 (g1 g4 (g1 g4 (g1 g4 g4))))) (g1 (g1 g4 (g1 g4 (g1 g4 (g1 g4 (g1 g4 g4))))) (g1 (g1 g4 (g1 g4 (g1 g4 (g1 g4 (g1 g4 (g1 g4 g4)))))) (g1 g4 (g1 g4 (g1 g4 (g1 g4 (g1 g4 g4))))))))) (g1 (g1 g4 (g1 g4 (g1 g4 (g1 g4 (g1 g4 g4))))) (g1 (g1 g4 (g1 g4 (g1 g4 (g1 g4 (g1 g4 g4))))) (g1 (g1 g4 (g1 g4 (g1 g4 (g1 g4 (g1 g4 (g1 g4 g4)))))) (g1 g4 (g1 g4 (g1 g4 (g1 g4 (g1 g4 g4)))))))))))))))))) (by kernel_rfl)
set_option maxRecDepth 100000 in
noncomputable def e21 : En Tryz.prog tab := enP base [e49] false [] Tryz.func21 Zao [(.agg q14)] (fun a => Zfm (rd a 0)) (fun r_ : Bool => ((V.bool r_), [])) [] [] [none] false (by kernel_rfl) fun _ => gA (g1 (g1 (g1 (g2 fun _ => g4) g4) g4) (g1 (g1 (g1 (g1 (g2 fun _ => g4) g4) g4) g4) g4)) (by kernel_rfl)
noncomputable def c50 : Cfg := Zah (P := Tryz.prog) (tab := tab) [e20] false []
def a50_0 (r_ : Nat × Bool × V × V) : List (Ex × St) := [(Ex.ret, (⟨[(2, (V.bp 0 0)), (3, (V.bp 1 0)), (4, (V.bool r_.2.1))], [(0, some (Blk.box Zj (l23 r_.2.2.1))), (1, some (Blk.box Zj (l23 r_.2.2.2)))], 2, []⟩ : St)), ((Ex.exit 0), (⟨[(2, (V.bp 0 0)), (3, (V.bp 1 0)), (4, V.dead)], [(0, some (Blk.box Zj (l23 r_.2.2.1))), (1, some (Blk.box Zj (l23 r_.2.2.2)))], 2, []⟩ : St))]
def s50_0 : SS := ⟨[(2, (.one (.bp 0 0))), (3, (.one (.bp 1 0))), (5, (.one (.int .i64)))], [(.box Zj q2), (.box Zj q2)], 2, []⟩
noncomputable def l50_0 : LE := le1 4 s50_0 (fun st => Zaw (((((gl (bc st 0) 1).length : Nat) : Int) - ((sv st 2).I)).toNat + 1) ((sv st 2).I) (bc st 0) (bc st 1)) a50_0
def a50_1 (r_ : Nat × Bool × V × V) : List (Ex × St) := [(Ex.ret, (⟨[(2, (V.bp 0 0)), (3, (V.bp 1 0)), (4, (V.bool r_.2.1))], [(0, some (Blk.box Zj (l23 r_.2.2.1))), (1, some (Blk.box Zj (l23 r_.2.2.2)))], 2, []⟩ : St)), ((Ex.exit 2), (⟨[(2, (V.bp 0 0)), (3, (V.bp 1 0)), (4, V.dead)], [(0, some (Blk.box Zj (l23 r_.2.2.1))), (1, some (Blk.box Zj (l23 r_.2.2.2)))], 2, []⟩ : St))]
def s50_1 : SS := ⟨[(2, (.one (.bp 0 0))), (3, (.one (.bp 1 0))), (8, (.one (.int .i64)))], [(.box Zj q2), (.box Zj q2)], 2, []⟩
noncomputable def l50_1 : LE := le1 10 s50_1 (fun st => Zal (((((gl (bc st 0) 2).length : Nat) : Int) - ((sv st 2).I)).toNat + 1) ((sv st 2).I) (bc st 0) (bc st 1)) a50_1
def a50_2 (r_ : Nat × Bool × V × V) : List (Ex × St) := [(Ex.ret, (⟨[(2, (V.bp 0 0)), (3, (V.bp 1 0)), (4, (V.bool r_.2.1))], [(0, some (Blk.box Zj (l23 r_.2.2.1))), (1, some (Blk.box Zj (l23 r_.2.2.2)))], 2, []⟩ : St)), ((Ex.exit 4), (⟨[(2, (V.bp 0 0)), (3, (V.bp 1 0)), (4, V.dead)], [(0, some (Blk.box Zj (l23 r_.2.2.1))), (1, some (Blk.box Zj (l23 r_.2.2.2)))], 2, []⟩ : St))]
def s50_2 : SS := ⟨[(2, (.one (.bp 0 0))), (3, (.one (.bp 1 0))), (9, (.one (.int .i64)))], [(.box Zj q2), (.box Zj q2)], 2, []⟩
noncomputable def l50_2 : LE := le1 15 s50_2 (fun st => Zam (((((gl (bc st 0) 4).length : Nat) : Int) - ((sv st 2).I)).toNat + 1) ((sv st 2).I) (bc st 0) (bc st 1)) a50_2
def a50_3 (r_ : Nat × Bool) : List (Ex × St) := [(Ex.ret, (⟨[(4, (V.bool r_.2))], [], 0, []⟩ : St)), ((Ex.exit 6), (⟨[(4, V.dead)], [], 0, []⟩ : St))]
def s50_3 : SS := ⟨[(2, (.one (.bp 0 0))), (3, (.one (.bp 1 0))), (10, (.one (.int .i64)))], [(.box Zj q2), (.box Zj q2)], 2, []⟩
noncomputable def l50_3 : LE := le1 20 s50_3 (fun st => Zan (((((gl (bc st 0) 5).length : Nat) : Int) - ((sv st 2).I)).toNat + 1) ((sv st 2).I) (bc st 0) (bc st 1)) a50_3
noncomputable def L50 : Loops := ⟨fun k => (look [(4, [2, 3, 5]), (10, [2, 3, 8]), (15, [2, 3, 9]), (20, [2, 3, 10])] k).getD [], fun _ => [], fun k => (look [(4, [2, 3, 4]), (10, [2, 3, 4]), (15, [2, 3, 4]), (20, [4])] k).getD [], Zbw [l50_0, l50_1, l50_2, l50_3], [], fun _ => []⟩
set_option maxRecDepth 100000 in
theorem t50_0 (k_ : Nat) : ∀ (i5 : Int) (b0 : V) (b1 : V), Agr id (pk1 a50_0) (Zaw k_ i5 b0 b1) (ZM c50 L50 (lpB Tryz.f50 0) k_ (s50_0.mk' (stv [.dead, .dead, vi i5] [bx b0, bx b1]))) := by
  induction k_ with
  | zero => exact fun _ _ _ => g0
  | succ k_ ih => exact fun _ _ _ => gA (g1 (g1 (g1 (g1 g4 (g1 g4 (g1 g4 (g1 g4 (ih _ _ _))))) g0) g0) g4) (by kernel_rfl)
set_option maxRecDepth 100000 in
theorem t50_1 (k_ : Nat) : ∀ (i8 : Int) (b0 : V) (b1 : V), Agr id (pk1 a50_1) (Zal k_ i8 b0 b1) (ZM c50 L50 (lpB Tryz.f50 1) k_ (s50_1.mk' (stv [.dead, .dead, vi i8] [bx b0, bx b1]))) := by
  induction k_ with
  | zero => exact fun _ _ _ => g0
  | succ k_ ih => exact fun _ _ _ => gA (g1 (g1 (g1 (g1 g4 (g1 (g1 (g1 g4 (ih _ _ _)) g0) g0)) g0) g0) g4) (by kernel_rfl)
theorem t50_2 (k_ : Nat) : ∀ (i9 : Int) (b0 : V) (b1 : V), Agr id (pk1 a50_2) (Zam k_ i9 b0 b1) (ZM c50 L50 (lpB Tryz.f50 2) k_ (s50_2.mk' (stv [.dead, .dead, vi i9] [bx b0, bx b1]))) := by
  induction k_ with
  | zero => exact fun _ _ _ => g0
  | succ k_ ih => exact fun _ _ _ => gA (g1 (g1 (g1 (g1 g4 (ih _ _ _)) g0) g0) g4) (by kernel_rfl)
theorem t50_3 (k_ : Nat) : ∀ (i10 : Int) (b0 : V) (b1 : V), Agr id (pk1 a50_3) (Zan k_ i10 b0 b1) (ZM c50 L50 (lpB Tryz.f50 3) k_ (s50_3.mk' (stv [.dead, .dead, vi i10] [bx b0, bx b1]))) := by
  induction k_ with
  | zero => exact fun _ _ _ => g0
  | succ k_ ih => exact fun _ _ _ => gA (g1 (g1 (g1 (g1 g4 (ih _ _ _)) g0) g0) g4) (by kernel_rfl)
theorem o50 : ZI c50 L50 (ZY Tryz.f50) := GoodAll.ok (l := [l50_0, l50_1, l50_2, l50_3]) (.cons 0 (by kernel_rfl) (gd1 (fun st => ((((gl (bc st 0) 1).length : Nat) : Int) - ((sv st 2).I)).toNat + 1) (fun st => t50_0 _ _ _ _) fun st => by kernel_rfl) (.cons 1 (by kernel_rfl) (gd1 (fun st => ((((gl (bc st 0) 2).length : Nat) : Int) - ((sv st 2).I)).toNat + 1) (fun st => t50_1 _ _ _ _) fun st => by kernel_rfl) (.cons 2 (by kernel_rfl) (gd1 (fun st => ((((gl (bc st 0) 4).length : Nat) : Int) - ((sv st 2).I)).toNat + 1) (fun st => t50_2 _ _ _ _) fun st => by kernel_rfl) (.cons 3 (by kernel_rfl) (gd1 (fun st => ((((gl (bc st 0) 5).length : Nat) : Int) - ((sv st 2).I)).toNat + 1) (fun st => t50_3 _ _ _ _) fun st => by kernel_rfl) (.nil))))) rfl
set_option maxRecDepth 100000 in
noncomputable def e50 : En Tryz.prog tab := enP base [e20] false [] Tryz.func50 (L := L50) o50 [(.agg q2), (.agg q2)] (fun a => Zen (rd a 0) (rd a 1)) (fun r_ : Bool => ((V.bool r_), [])) [] [] [none, none] false (by kernel_rfl) fun _ => gA (g1 g4 (g1 g4 (g1 g4 (g1 g4 (g1 g4 (g1 g4 (g2 fun _ => g1 g4 (g2 fun _ => g1 g4 (g2 fun _ => g1 g4 (g2 fun _ => g1 g4 g4)))))))))) (by kernel_rfl)
noncomputable def e22 : En Tryz.prog tab := enP base [e50] false [] Tryz.func22 Zao [(.agg q2), (.agg q2)] (fun a => ZaP (rd a 0) (rd a 1)) (fun r_ : Bool => ((V.bool r_), [])) [] [] [none, none] false (by kernel_rfl) fun _ => gA (g2 fun _ => g4) (by kernel_rfl)
noncomputable def L8 : Loops := ⟨fun _ => [], fun _ => [], fun _ => [], Zbw [], [], fun k => (look [(3, [⟨4, some 1003, true⟩]), (6, [⟨7, some 1001, true⟩, ⟨7, some 1002, true⟩, ⟨7, some 1004, true⟩, ⟨7, some 1005, true⟩]), (9, [⟨9, some 1001, true⟩, ⟨9, some 1002, true⟩, ⟨9, some 1004, true⟩, ⟨9, some 1005, true⟩])] k).getD []⟩
set_option maxRecDepth 100000 in
noncomputable def e8 : En Tryz.prog tab := enP base [e9, e19, e10, e11, e21, e22] false [] Tryz.func8 (L := L8) (GoodAll.ok (l := []) GoodAll.nil rfl) [(.one (.inl Zc))] (fun a => ZdL ((rd a 0).L)) (fun r_ : Bool => ((V.bool r_), [])) [] [] [some Zc] false (by kernel_rfl) fun _ => gA (g2 fun _ => g2 fun _ => g1 (g2 fun _ => g2 fun _ => g1 g4 (g1 g4 (g1 g4 (g2 fun _ => g1 (g1 (g2 fun _ => g2 fun _ => g1 (g1 (g2 fun _ => g4) g4) (g1 (g2 fun _ => g1 g4 g4) g4)) (g2 fun _ => g1 (g1 (g2 fun _ => g4) g4) (g1 (g2 fun _ => g1 g4 g4) g4))) (g2 fun _ => g1 (g1 (g2 fun _ => g4) g4) (g1 (g2 fun _ => g1 g4 g4) g4)))))) g0) (by kernel_rfl)
end Go.Eng.R
open Go Go.Eng
namespace Go.Eng.R
def W_Row (x : V) : Prop := LW ZS (gl x 0) ∧ LW ZS (gl x 1) ∧ I64 (gi x 2) ∧ I64 (gi x 3)
def W_Tomb (x : V) : Prop := LW ZS (gl x 0) ∧ I64 (gi x 1)
def ZpY (x : V) : Prop := I64 (gi x 0) ∧ True
def W_Last (x : V) : Prop := I64 (gi x 0) ∧ I64 (gi x 1) ∧ I64 (gi x 2) ∧ I64 (gi x 3)
def Zb4 (x : V) : Prop := I64 (gi x 0) ∧ LW W_Row (gl x 1) ∧ LW W_Tomb (gl x 2) ∧ I64 (gi x 3) ∧ LW ZpY (gl x 4) ∧ LW W_Last (gl x 5)
def W_Op (x : V) : Prop := I64 (gi x 0) ∧ LW ZS (gl x 1) ∧ LW ZS (gl x 2) ∧ I64 (gi x 3)
def Zfn (x : V) : Prop := I64 (gi x 0) ∧ I64 (gi x 1) ∧ I64 (gi x 2) ∧ LW ZS (gl x 3) ∧ LW ZS (gl x 4) ∧ I64 (gi x 5)
end Go.Eng.R
open Go Go.Eng
namespace Go.Eng.R
theorem Zd8 (n lo hi : Int) : ZQ n lo hi = decide (lo ≤ n ∧ n ≤ hi) := by
  unfold ZQ
  by_cases h : lo ≤ n <;> simp [h]
theorem ZlX (n lo hi : Int) : ZQ n lo hi = (!decide (n < lo) && !decide (hi < n)) := by
  rw [Zd8]
  by_cases h1 : n < lo
  · rw [decide_eq_true h1, decide_eq_false (by omega)]; rfl
  · by_cases h2 : hi < n
    · rw [decide_eq_true h2, decide_eq_false (by omega)]; simp
    · rw [decide_eq_false h1, decide_eq_false h2, decide_eq_true (by omega)]; rfl
theorem Zja (a b : Int) : decide (a ≤ b) = !decide (b < a) := by
  by_cases h : a ≤ b
  · rw [decide_eq_true h, decide_eq_false (by omega)]; rfl
  · rw [decide_eq_false h, decide_eq_true (by omega)]; rfl
theorem ZeR {k n : Nat} (h0 : ¬ k = 0) (h : k ≤ n) (hn : n ≤ 9223372036854775807) : IntKind.i64.wrap ((k : Int) - 1) = ((k - 1 : Nat) : Int) := by rw [Zap (by omega) (by omega)]; omega
end Go.Eng.R
open Go Go.Eng
namespace Go.Eng.R
def chB (x : V) : Bool := !decide (gi x 0 < 97) && !decide (122 < gi x 0) || decide (gi x 0 = 47)
theorem Zmm {p : V → Bool} {l : List V} {i : Nat} (h : i < l.length) : (l.take (i + 1)).all p = ((l.take i).all p && p (rd l i)) := by
  rw [List.take_add_one, List.all_append]
  have : l[i]? = some (rd l i) := by simp [rd, List.getD, h]
  rw [this]; simp
theorem Znm {p : V → Bool} {l : List V} {i : Nat} (h : i < l.length) (hp : p (rd l i) = false) : l.all p = false := by
  rw [List.all_eq_false]
  refine ⟨rd l i, ?_, by simp [hp]⟩
  have : rd l i = l[i] := by simp [rd, List.getD, h]
  rw [this]; exact List.getElem_mem h
theorem Znn {ρ : Type} {F : Nat → Int → ρ} {l : List V} {p : V → Bool} {yes no : ρ}
    (h1 : ∀ m (i : Nat), i < l.length → F (m + 1) (i : Int) = bif p (rd l i) then F m ((i + 1 : Nat) : Int) else no) (h0 : ∀ m, F (m + 1) (l.length : Int) = yes) :
    F (l.length + 1) 0 = bif l.all p then yes else no := by
  refine Zdj (F := fun m (_ : Unit) i => F m i) (n := l.length) (fun i _ => (l.take i).all p = true) (fun o => o = bif l.all p then yes else no) ?_ ?_ (s := ()) (by simp)
  · intro m i s hi hI
    rw [h1 m i hi]
    cases hp : p (rd l i) with
    | true => exact .inl ⟨(), rfl, by rw [Zmm hi, hI, hp]; rfl⟩
    | false => exact .inr (by rw [Znm hi hp]; rfl)
  · intro m s hI
    rw [List.take_length] at hI
    rw [hI]; exact h0 m
def Za4 (b : List V) : Bool := decide (1 ≤ b.length) && (decide (b.length ≤ 20) && b.all chB)
theorem Zf8 {b : List V} (hb : LW ZS b) : Zb1 b = some (Za4 b) := by
  have hl := hb.1
  unfold Zb1 Za4
  by_cases h1 : 1 ≤ b.length
  · by_cases h2 : b.length ≤ 20
    · rw [show decide (((b.length : Nat) : Int) < 1) = false from by simp; omega, show decide ((20 : Int) < ((b.length : Nat) : Int)) = false from by simp; omega, cond_false, cond_false, Zbd,
        Znn (F := fun m i => Zbv m b i) (l := b) (p := chB) (yes := some (1, false)) (no := some (0, false)) ?_ ?_]
      · simp only [h1, h2, decide_true, Bool.true_and]
        cases b.all chB <;> rfl
      · intro m i hi
        simp only [Zbv, Zag hi, Zo hi, Int.toNat_natCast, cond_true, Z8 hi hl, chB]
        cases decide (gi (rd b i) 0 < 97) <;> cases decide (122 < gi (rd b i) 0) <;> cases decide (gi (rd b i) 0 = 47) <;> rfl
      · intro m; simp only [Zbv, Z3, cond_false]
    · rw [show decide (((b.length : Nat) : Int) < 1) = false from by simp; omega, show decide ((20 : Int) < ((b.length : Nat) : Int)) = true from by simp; omega]
      simp [h2]
  · rw [show decide (((b.length : Nat) : Int) < 1) = true from by simp; omega]
    simp [h1]
theorem ZeH {b : List V} (hb : LW ZS b) : ZbI b = some (Za4 b) := by
  have hl := hb.1
  unfold ZbI Za4
  rw [Zbd, Znn (F := fun m i => Zbu m b b ((b.length : Nat) : Int) i) (l := b) (p := chB) (yes := some (1, b, false)) (no := some (0, b, false)) ?_ ?_]
  · cases b.all chB with
    | true => simp only [cond_true, Option.bind_some, Zd8]; simp [Nat.beq]; by_cases h1 : 1 ≤ b.length <;> by_cases h2 : b.length ≤ 20 <;> simp [h1, h2] <;> omega
    | false => simp [Nat.beq]
  · intro m i hi
    simp only [Zbu, Zag hi, Zo hi, Int.toNat_natCast, cond_true, Z8 hi hl, chB]
    cases decide (gi (rd b i) 0 < 97) <;> cases decide (122 < gi (rd b i) 0) <;> cases decide (gi (rd b i) 0 = 47) <;> rfl
  · intro m; simp only [Zbu, Z3, cond_false]
end Go.Eng.R
open Go Go.Eng
namespace Go.Eng.R
def fI (l : List V) (id : Int) : Int := match Zr (fun i => decide (gi (rd l i) 0 = id)) 0 l.length with | some j => (j : Int) | none => -1
def fK (l : List V) (k : List V) : Int := match Zr (fun i => neq (gl (rd l i) 0) k) 0 l.length with | some j => (j : Int) | none => -1
theorem ZfD {s : V} (hl : (gl s 4).length ≤ 9223372036854775807) (id : Int) : ZbF (Za s) id = some (fI (gl s 4) id) := by
  unfold ZbF fI
  simp only [show gl (Za s) 4 = gl s 4 from rfl, show Za (Za s) = Za s from rfl]
  rw [Zbd, show (0 : Int) = ((0 : Nat) : Int) from rfl, Zdk (F := fun m i => ZbU m id i (Za s)) (n := (gl s 4).length) (q := fun i => decide (gi (rd (gl s 4) i) 0 = id)) (out := fun j => some (0, j)) (no := some (1, 0)) ?_ ?_ ((gl s 4).length + 1) 0 (by omega) (by omega)]
  · rw [Nat.sub_zero]
    cases Zr (fun i => decide (gi (rd (gl s 4) i) 0 = id)) 0 (gl s 4).length <;> rfl
  · intro m i hi
    simp only [ZbU, show gl (Za s) 4 = gl s 4 from rfl, show Za (Za s) = Za s from rfl, Zag hi, Zo hi, Int.toNat_natCast, cond_true, Z8 hi hl]
  · intro m; simp only [ZbU, show gl (Za s) 4 = gl s 4 from rfl, Z3, cond_false]
theorem Zfo {s : V} (hl : (gl s 4).length ≤ 9223372036854775807) (id : Int) : Zbk (Za s) id = some (fI (gl s 4) id) := by
  unfold Zbk Zcx fI
  rw [show gl (Za s) 4 = gl s 4 from rfl, Zbd, show (0 : Int) = ((0 : Nat) : Int) from rfl, Zdk (F := fun m i => Zad m (gl s 4) (V.agg [(V.int .i64 (gi (V.agg [(V.int .i64 id)]) 0))]) (((gl s 4).length : Nat) : Int) i) (n := (gl s 4).length) (q := fun i => decide (gi (rd (gl s 4) i) 0 = id)) (out := fun j => some (0, j)) (no := some (1, 0)) ?_ ?_ ((gl s 4).length + 1) 0 (by omega) (by omega)]
  · rw [Nat.sub_zero]
    cases Zr (fun i => decide (gi (rd (gl s 4) i) 0 = id)) 0 (gl s 4).length <;> rfl
  · intro m i hi
    simp only [Zad, Zag hi, Zo hi, Int.toNat_natCast, cond_true, Z8 hi hl]
    rfl
  · intro m; simp only [Zad, Z3, cond_false]
theorem ZeI {s : V} (hl : (gl s 1).length ≤ 9223372036854775807) (k : List V) : Zbb (Za s) k = some (fK (gl s 1) k) := by
  unfold Zbb fK
  simp only [show gl (Za s) 1 = gl s 1 from rfl, show Za (Za s) = Za s from rfl]
  rw [Zbd, show (0 : Int) = ((0 : Nat) : Int) from rfl, Zdk (F := fun m i => Zb8 m k i (Za s)) (n := (gl s 1).length) (q := fun i => neq (gl (rd (gl s 1) i) 0) k) (out := fun j => some (0, j)) (no := some (1, 0)) ?_ ?_ ((gl s 1).length + 1) 0 (by omega) (by omega)]
  · rw [Nat.sub_zero]
    cases Zr (fun i => neq (gl (rd (gl s 1) i) 0) k) 0 (gl s 1).length <;> rfl
  · intro m i hi
    simp only [Zb8, show gl (Za s) 1 = gl s 1 from rfl, show Za (Za s) = Za s from rfl, Zag hi, Zo hi, Int.toNat_natCast, cond_true, Z8 hi hl]
    rfl
  · intro m; simp only [Zb8, show gl (Za s) 1 = gl s 1 from rfl, Z3, cond_false]
theorem Zhs {s : V} (hl : (gl s 2).length ≤ 9223372036854775807) (k : List V) : ZdJ (Za s) k = some (fK (gl s 2) k) := by
  unfold ZdJ fK
  simp only [show gl (Za s) 2 = gl s 2 from rfl, show Za (Za s) = Za s from rfl]
  rw [Zbd, show (0 : Int) = ((0 : Nat) : Int) from rfl, Zdk (F := fun m i => ZbT m k i (Za s)) (n := (gl s 2).length) (q := fun i => neq (gl (rd (gl s 2) i) 0) k) (out := fun j => some (0, j)) (no := some (1, 0)) ?_ ?_ ((gl s 2).length + 1) 0 (by omega) (by omega)]
  · rw [Nat.sub_zero]
    cases Zr (fun i => neq (gl (rd (gl s 2) i) 0) k) 0 (gl s 2).length <;> rfl
  · intro m i hi
    simp only [ZbT, show gl (Za s) 2 = gl s 2 from rfl, show Za (Za s) = Za s from rfl, Zag hi, Zo hi, Int.toNat_natCast, cond_true, Z8 hi hl]
    rfl
  · intro m; simp only [ZbT, show gl (Za s) 2 = gl s 2 from rfl, Z3, cond_false]
theorem ZgG {s : V} (hl : (gl s 2).length ≤ 9223372036854775807) (k : List V) : ZbJ (Za s) k = some (fK (gl s 2) k) := by
  unfold ZbJ Zdc fK
  rw [show gl (Za s) 2 = gl s 2 from rfl, Zbd, show (0 : Int) = ((0 : Nat) : Int) from rfl, Zdk (F := fun m i => Zas m (gl s 2) (V.agg [(V.inl Zc (gl (V.agg [(V.inl Zc k)]) 0))]) (((gl s 2).length : Nat) : Int) i) (n := (gl s 2).length) (q := fun i => neq (gl (rd (gl s 2) i) 0) k) (out := fun j => some (0, j)) (no := some (1, 0)) ?_ ?_ ((gl s 2).length + 1) 0 (by omega) (by omega)]
  · rw [Nat.sub_zero]
    cases Zr (fun i => neq (gl (rd (gl s 2) i) 0) k) 0 (gl s 2).length <;> rfl
  · intro m i hi
    simp only [Zas, Zag hi, Zo hi, Int.toNat_natCast, cond_true, Z8 hi hl]
    rfl
  · intro m; simp only [Zas, Z3, cond_false]
theorem ZoD (a b : List V) : Zca (a.map Zay) (b.map Zay) = nlt a b := rfl
theorem bsK_eq {S : List V} (hS : S.length ≤ 4194304) (ha : AscN (fun r => gl r 0) S) (t : List V) : Zbn S t = some (((lbN (fun r => gl r 0) S t : Nat) : Int), Zcv (fun r => gl r 0) S t) := by
  unfold Zbn
  have hle := Zhr (fun r => gl r 0) S t
  rw [Zbd, show (0 : Int) = ((0 : Nat) : Int) from rfl, Zi8 (F := fun m i j => ZO m S t ((S.length : Nat) : Int) i j) (x := S) (p := fun r => nlt (gl r 0) t) (n0 := lbN (fun r => gl r 0) S t) (out := fun i => some (S, t, ((S.length : Nat) : Int), i)) (by omega) (ZgE ha t) ?_ ?_ (S.length + 1) 0 S.length (by omega) hle (by omega) (by omega)]
  · simp only [Option.bind_some]
    unfold Zcv
    by_cases hc : lbN (fun r => gl r 0) S t < S.length
    · rw [Zag hc, cond_true, Zo hc, cond_true, Int.toNat_natCast, decide_eq_true hc, Bool.true_and]
      congr 2
      exact Zpa _ _
    · rw [decide_eq_false (p := ((lbN (fun r => gl r 0) S t : Nat) : Int) < ((S.length : Nat) : Int)) (by omega), decide_eq_false hc]
      rfl
  · intro m i j hij hj
    have hw := wr_mid (i := i) (j := j) (by omega)
    simp only [ZO, hw]
    rw [Zag hij, cond_true, Zo (show (i + j) / 2 < S.length by omega), cond_true, Int.toNat_natCast, Z8 (n := S.length) (show (i + j) / 2 < S.length by omega) (by omega)]
    rw [show decide (Zdr (ZhX (rd S ((i + j) / 2))) t < 0) = nlt (gl (rd S ((i + j) / 2)) 0) t from cmpV_neg _ _]
  · intro m i; simp only [ZO, Z3, cond_false]
theorem ZfR {s : V} (hS : (gl s 1).length ≤ 4194304) (ha : AscN (fun r => gl r 0) (gl s 1)) (t : List V) : Zbz (Za s) t = some (((lbN (fun r => gl r 0) (gl s 1) t : Nat) : Int), Zcv (fun r => gl r 0) (gl s 1) t) := by
  unfold Zbz
  rw [show gl (Za s) 1 = gl s 1 from rfl, bsK_eq hS ha]
  rfl
theorem hasN_fK {l : List V} (h : AscN (fun r => gl r 0) l) (t : List V) : Zcv (fun r => gl r 0) l t = decide (0 ≤ fK l t) := by
  have := Zna h t
  unfold fK
  rw [this]
  cases Zcv (fun r => gl r 0) l t with
  | false => rfl
  | true => exact (decide_eq_true (by simp)).symm
def Zd9 (s : V) (i : Nat) : Bool := Za4 (gl (rd (gl s 1) i) 0) && (!decide (20 < (((gl (rd (gl s 1) i) 1).length : Nat) : Int)) && (!decide (gi (rd (gl s 1) i) 2 < 1) && (!decide (gi s 0 < gi (rd (gl s 1) i) 2) &&
  ((decide (gi (rd (gl s 1) i) 3 = 0) || !decide (fI (gl s 4) (gi (rd (gl s 1) i) 3) < 0)) && (decide (i = 0) || nlt (gl (rd (gl s 1) (i - 1)) 0) (gl (rd (gl s 1) i) 0))))))
def ZcC (s : V) (i : Nat) : Bool := Za4 (gl (rd (gl s 2) i) 0) && (!decide (0 ≤ fK (gl s 1) (gl (rd (gl s 2) i) 0)) && (decide (fK (gl s 2) (gl (rd (gl s 2) i) 0) = (i : Int)) && (!decide (gi (rd (gl s 2) i) 1 < 1) && (!decide (gi s 0 < gi (rd (gl s 2) i) 1) &&
  (!decide (gi (rd (gl s 2) i) 1 < gi s 3) && (decide (i = 0) || !decide (gi (rd (gl s 2) i) 1 < gi (rd (gl s 2) (i - 1)) 1)))))))
def ZdW (s : V) (i : Nat) : Bool := !decide (gi (rd (gl s 4) i) 0 < 1) && (!decide (gi s 0 < gi (rd (gl s 4) i) 0) && (decide (i = 0) || decide (gi (rd (gl s 4) (i - 1)) 0 < gi (rd (gl s 4) i) 0)))
def ZeJ (s : V) (i : Nat) : Bool := decide (0 ≤ gi (rd (gl s 5) i) 0 ∧ gi (rd (gl s 5) i) 0 ≤ 3 ∧ 1 ≤ gi (rd (gl s 5) i) 1 ∧ gi (rd (gl s 5) i) 1 ≤ 1000000 ∧ 0 ≤ gi (rd (gl s 5) i) 2 ∧ gi (rd (gl s 5) i) 2 ≤ 5 ∧ 1 ≤ gi (rd (gl s 5) i) 3 ∧ gi (rd (gl s 5) i) 3 ≤ gi s 0) &&
  (decide (i = 0) || decide (gi (rd (gl s 5) (i - 1)) 0 < gi (rd (gl s 5) i) 0))
def Zlc (s : V) : Bool := decide (0 ≤ gi s 0 ∧ gi s 0 ≤ 1000000 ∧ 0 ≤ gi s 3 ∧ gi s 3 ≤ gi s 0 ∧ (gl s 1).length ≤ 20 ∧ (gl s 2).length ≤ 10 ∧ (gl s 4).length ≤ 8 ∧ (gl s 5).length ≤ 4)
def ZaJ (s : V) : Bool := Zlc s && ((List.range (gl s 1).length).all (Zd9 s) && ((List.range (gl s 2).length).all (ZcC s) && ((List.range (gl s 4).length).all (ZdW s) && (List.range (gl s 5).length).all (ZeJ s))))
theorem Zno {s : V} (h : (List.range (gl s 1).length).all (Zd9 s) = true) : AscN (fun r => gl r 0) (gl s 1) := by
  intro i hi
  rw [List.all_eq_true] at h
  have := h (i + 1) (List.mem_range.2 hi)
  unfold Zd9 at this
  simp only [Bool.and_eq_true] at this
  simpa using this.2.2.2.2.2
theorem Znp {s : V} (hs : Zb4 s) : ZaH ((gl s 1).length + 1) 0 (Za s) = bif (List.range (gl s 1).length).all (Zd9 s) then some (1, false, Za s) else some (0, false, Za s) := by
  have hl := hs.2.1.1
  have hk := hs.2.2.2.2.1.1
  refine Zd5 (F := fun m i => ZaH m i (Za s)) (n := (gl s 1).length) (q := Zd9 s) (yes := some (1, false, Za s)) (no := some (0, false, Za s)) ?_ ?_
  · intro m i hi
    have hw := hs.2.1.rd hi
    simp only [ZaH, show gl (Za s) 1 = gl s 1 from rfl, show gi (Za s) 0 = gi s 0 from rfl, show Za (Za s) = Za s from rfl, Zag hi, Zo hi, Int.toNat_natCast, cond_true, Z8 hi hl, Zf8 hw.1, Option.bind_some, ZfD hk, Zfl, Zja, Bool.not_not, ZoD]
    unfold Zd9
    cases Za4 (gl (rd (gl s 1) i) 0) <;> try rfl
    cases decide ((20 : Int) < (((gl (rd (gl s 1) i) 1).length : Nat) : Int)) <;> try rfl
    cases decide (gi (rd (gl s 1) i) 2 < 1) <;> try rfl
    cases decide (gi s 0 < gi (rd (gl s 1) i) 2) <;> try rfl
    by_cases h0 : i = 0
    · subst h0
      rw [decide_eq_false (p := (0 : Int) < ((0 : Nat) : Int)) (by omega)]
      cases decide (gi (rd (gl s 1) 0) 3 = 0) <;> cases decide (fI (gl s 4) (gi (rd (gl s 1) 0) 3) < 0) <;> rfl
    · rw [decide_eq_true (p := (0 : Int) < (i : Int)) (by omega), ZeR h0 (Nat.le_of_lt hi) hl, Zo (show i - 1 < (gl s 1).length by omega), Int.toNat_natCast, decide_eq_false h0]
      cases decide (gi (rd (gl s 1) i) 3 = 0) <;> cases decide (fI (gl s 4) (gi (rd (gl s 1) i) 3) < 0) <;> cases nlt (gl (rd (gl s 1) (i - 1)) 0) (gl (rd (gl s 1) i) 0) <;> rfl
  · intro m; simp only [ZaH, show gl (Za s) 1 = gl s 1 from rfl, Z3, cond_false]; rfl
theorem Znq {s : V} (hs : Zb4 s) : ZaG ((gl s 1).length + 1) (gl s 1) (((gl s 1).length : Nat) : Int) 0 (Za s) = bif (List.range (gl s 1).length).all (Zd9 s) then some (1, false, Za s) else some (0, false, Za s) := by
  have hl := hs.2.1.1
  have hk := hs.2.2.2.2.1.1
  refine Zd5 (F := fun m i => ZaG m (gl s 1) (((gl s 1).length : Nat) : Int) i (Za s)) (n := (gl s 1).length) (q := Zd9 s) (yes := some (1, false, Za s)) (no := some (0, false, Za s)) ?_ ?_
  · intro m i hi
    have hw := hs.2.1.rd hi
    simp only [ZaG, show gl (Za s) 1 = gl s 1 from rfl, show gi (Za s) 0 = gi s 0 from rfl, show Za (Za s) = Za s from rfl, Zag hi, Zo hi, Int.toNat_natCast, cond_true, Z8 hi hl, ZeH hw.1, Option.bind_some, Zfo hk, Zcw, ZlX, Zja _ (20 : Int), Bool.not_not, Zn4]
    unfold Zd9
    cases Za4 (gl (rd (gl s 1) i) 0) <;> try rfl
    cases decide ((20 : Int) < (((gl (rd (gl s 1) i) 1).length : Nat) : Int)) <;> try rfl
    cases decide (gi (rd (gl s 1) i) 2 < 1) <;> try rfl
    cases decide (gi s 0 < gi (rd (gl s 1) i) 2) <;> try rfl
    by_cases h0 : i = 0
    · subst h0
      rw [decide_eq_false (p := (0 : Int) < ((0 : Nat) : Int)) (by omega)]
      cases decide (gi (rd (gl s 1) 0) 3 = 0) <;> cases decide (fI (gl s 4) (gi (rd (gl s 1) 0) 3) < 0) <;> rfl
    · rw [decide_eq_true (p := (0 : Int) < (i : Int)) (by omega), ZeR h0 (Nat.le_of_lt hi) hl, Zo (show i - 1 < (gl s 1).length by omega)]
      simp only [Int.toNat_natCast, decide_eq_false h0]
      cases decide (gi (rd (gl s 1) i) 3 = 0) <;> cases decide (fI (gl s 4) (gi (rd (gl s 1) i) 3) < 0) <;> cases nlt (gl (rd (gl s 1) (i - 1)) 0) (gl (rd (gl s 1) i) 0) <;> rfl
  · intro m; simp only [ZaG, Z3, cond_false]; rfl
theorem Zmn {s : V} (hs : Zb4 s) : Za1 ((gl s 2).length + 1) 0 (Za s) = bif (List.range (gl s 2).length).all (ZcC s) then some (1, false, Za s) else some (0, false, Za s) := by
  have hr := hs.2.1.1
  have hl := hs.2.2.1.1
  refine Zd5 (F := fun m i => Za1 m i (Za s)) (n := (gl s 2).length) (q := ZcC s) (yes := some (1, false, Za s)) (no := some (0, false, Za s)) ?_ ?_
  · intro m i hi
    have hw := hs.2.2.1.rd hi
    simp only [Za1, show gl (Za s) 2 = gl s 2 from rfl, show gi (Za s) 0 = gi s 0 from rfl, show gi (Za s) 3 = gi s 3 from rfl, show Za (Za s) = Za s from rfl, Zag hi, Zo hi, Int.toNat_natCast, cond_true, Z8 hi hl, Zf8 hw.1, Option.bind_some, ZeI hr, Zhs hl]
    unfold ZcC
    cases Za4 (gl (rd (gl s 2) i) 0) <;> try rfl
    cases decide (0 ≤ fK (gl s 1) (gl (rd (gl s 2) i) 0)) <;> try rfl
    cases decide (fK (gl s 2) (gl (rd (gl s 2) i) 0) = (i : Int)) <;> try rfl
    cases decide (gi (rd (gl s 2) i) 1 < 1) <;> try rfl
    cases decide (gi s 0 < gi (rd (gl s 2) i) 1) <;> try rfl
    cases decide (gi (rd (gl s 2) i) 1 < gi s 3) <;> try rfl
    by_cases h0 : i = 0
    · subst h0
      rw [decide_eq_false (p := (0 : Int) < ((0 : Nat) : Int)) (by omega)]
      rfl
    · rw [decide_eq_true (p := (0 : Int) < (i : Int)) (by omega), ZeR h0 (Nat.le_of_lt hi) hl, Zo (show i - 1 < (gl s 2).length by omega), Int.toNat_natCast, decide_eq_false h0]
      cases decide (gi (rd (gl s 2) i) 1 < gi (rd (gl s 2) (i - 1)) 1) <;> rfl
  · intro m; simp only [Za1, show gl (Za s) 2 = gl s 2 from rfl, Z3, cond_false]; rfl
theorem mx_eq (a b : Int) : mxI a b = max a b := by
  unfold mxI
  by_cases h : a < b <;> simp [h] <;> omega
theorem Zmo {s : V} (hs : Zb4 s) (hS : (gl s 1).length ≤ 4194304) (ha : AscN (fun r => gl r 0) (gl s 1)) : ZaY ((gl s 2).length + 1) (mxI 1 (gi s 3)) (gl s 2) (((gl s 2).length : Nat) : Int) 0 (Za s) = bif (List.range (gl s 2).length).all (ZcC s) then some (1, false, Za s) else some (0, false, Za s) := by
  have hr := hs.2.1.1
  have hl := hs.2.2.1.1
  refine Zdj (F := fun m (b : Int) i => ZaY m b (gl s 2) (((gl s 2).length : Nat) : Int) i (Za s)) (n := (gl s 2).length) (fun i b => (List.range i).all (ZcC s) = true ∧ (b = if i = 0 then max 1 (gi s 3) else gi (rd (gl s 2) (i - 1)) 1) ∧ 1 ≤ b ∧ gi s 3 ≤ b)
    (fun o => o = bif (List.range (gl s 2).length).all (ZcC s) then some (1, false, Za s) else some (0, false, Za s)) ?_ ?_ ⟨by simp, by rw [mx_eq]; simp, by rw [mx_eq]; omega, by rw [mx_eq]; omega⟩
  · intro m i b hi hI
    obtain ⟨hall, hb, hb1, hb2⟩ := hI
    have hw := hs.2.2.1.rd hi
    have hno : ZcC s i = false → (List.range (gl s 2).length).all (ZcC s) = false := fun h => by
      rw [List.all_eq_false]
      exact ⟨i, List.mem_range.2 hi, by simp [h]⟩
    simp only [ZaY, show gi (Za s) 0 = gi s 0 from rfl, show Za (Za s) = Za s from rfl, Zag hi, Zo hi, Int.toNat_natCast, cond_true, Z8 hi hl, ZeH hw.1, Option.bind_some, ZfR hS ha, ZgG hl, hasN_fK ha, Zd8]
    have ht : ZcC s i = (Za4 (gl (rd (gl s 2) i) 0) && (!decide (0 ≤ fK (gl s 1) (gl (rd (gl s 2) i) 0)) && (decide (fK (gl s 2) (gl (rd (gl s 2) i) 0) = (i : Int)) && decide (b ≤ gi (rd (gl s 2) i) 1 ∧ gi (rd (gl s 2) i) 1 ≤ gi s 0)))) := by
      have e : (!decide (gi (rd (gl s 2) i) 1 < 1) && (!decide (gi s 0 < gi (rd (gl s 2) i) 1) && (!decide (gi (rd (gl s 2) i) 1 < gi s 3) && (decide (i = 0) || !decide (gi (rd (gl s 2) i) 1 < gi (rd (gl s 2) (i - 1)) 1))))) = decide (b ≤ gi (rd (gl s 2) i) 1 ∧ gi (rd (gl s 2) i) 1 ≤ gi s 0) := by
        rw [Bool.eq_iff_iff]
        simp only [Bool.and_eq_true, Bool.or_eq_true, Bool.not_eq_true', decide_eq_true_eq, decide_eq_false_iff_not]
        by_cases h0 : i = 0
        · subst h0
          simp only [if_true] at hb
          omega
        · rw [if_neg h0] at hb
          omega
      unfold ZcC
      rw [e]
    by_cases hq : ZcC s i = true
    · refine .inl ⟨gi (rd (gl s 2) i) 1, ?_, by rw [List.range_succ, List.all_append, hall]; simp [hq], by simp, ?_⟩
      · rw [ht] at hq
        simp only [Bool.and_eq_true, Bool.not_eq_true', decide_eq_true_eq] at hq
        obtain ⟨q1, q2, q3, q4⟩ := hq
        simp only [q1, q2, q3, cond_false, Bool.not_true, decide_eq_true q4, decide_true]
      · rw [ht] at hq
        simp only [Bool.and_eq_true, Bool.not_eq_true', decide_eq_true_eq] at hq
        omega
    · have hq : ZcC s i = false := by simpa using hq
      refine .inr ?_
      rw [hno hq]
      rw [ht] at hq
      cases h1 : decide (0 ≤ fK (gl s 1) (gl (rd (gl s 2) i) 0)) <;> try rfl
      cases h2 : Za4 (gl (rd (gl s 2) i) 0) <;> try rfl
      cases h3 : decide (fK (gl s 2) (gl (rd (gl s 2) i) 0) = (i : Int)) <;> try rfl
      cases h4 : decide (b ≤ gi (rd (gl s 2) i) 1 ∧ gi (rd (gl s 2) i) 1 ≤ gi s 0) <;> try rfl
      rw [h1, h2, h3, h4] at hq
      cases hq
  · intro m b hI
    show ZaY (m + 1) b (gl s 2) (((gl s 2).length : Nat) : Int) (((gl s 2).length : Nat) : Int) (Za s) = _
    rw [hI.1]
    simp only [ZaY, Z3, cond_false]; rfl
theorem Znr {s : V} (hs : Zb4 s) : Za2 ((gl s 4).length + 1) 0 (Za s) = bif (List.range (gl s 4).length).all (ZdW s) then some (1, false, Za s) else some (0, false, Za s) := by
  have hl := hs.2.2.2.2.1.1
  refine Zd5 (F := fun m i => Za2 m i (Za s)) (n := (gl s 4).length) (q := ZdW s) (yes := some (1, false, Za s)) (no := some (0, false, Za s)) ?_ ?_
  · intro m i hi
    simp only [Za2, show gl (Za s) 4 = gl s 4 from rfl, show gi (Za s) 0 = gi s 0 from rfl, show Za (Za s) = Za s from rfl, Zag hi, Zo hi, Int.toNat_natCast, cond_true, Z8 hi hl]
    unfold ZdW
    cases decide (gi (rd (gl s 4) i) 0 < 1) <;> try rfl
    cases decide (gi s 0 < gi (rd (gl s 4) i) 0) <;> try rfl
    by_cases h0 : i = 0
    · subst h0
      rw [decide_eq_false (p := (0 : Int) < ((0 : Nat) : Int)) (by omega)]
      rfl
    · rw [decide_eq_true (p := (0 : Int) < (i : Int)) (by omega), ZeR h0 (Nat.le_of_lt hi) hl, Zo (show i - 1 < (gl s 4).length by omega), Int.toNat_natCast, decide_eq_false h0, Zja (gi (rd (gl s 4) i) 0)]
      cases decide (gi (rd (gl s 4) (i - 1)) 0 < gi (rd (gl s 4) i) 0) <;> rfl
  · intro m; simp only [Za2, show gl (Za s) 4 = gl s 4 from rfl, Z3, cond_false]; rfl
theorem Zns {s : V} (hs : Zb4 s) : ZaZ ((gl s 4).length + 1) (gl s 4) (((gl s 4).length : Nat) : Int) 0 (Za s) = bif (List.range (gl s 4).length).all (ZdW s) then some (1, false, Za s) else some (0, false, Za s) := by
  have hl := hs.2.2.2.2.1.1
  refine Zd5 (F := fun m i => ZaZ m (gl s 4) (((gl s 4).length : Nat) : Int) i (Za s)) (n := (gl s 4).length) (q := ZdW s) (yes := some (1, false, Za s)) (no := some (0, false, Za s)) ?_ ?_
  · intro m i hi
    simp only [ZaZ, show gl (Za s) 4 = gl s 4 from rfl, show gi (Za s) 0 = gi s 0 from rfl, show Za (Za s) = Za s from rfl, Zag hi, Zo hi, Int.toNat_natCast, cond_true, Z8 hi hl, ZlX]
    unfold ZdW
    cases decide (gi (rd (gl s 4) i) 0 < 1) <;> try rfl
    cases decide (gi s 0 < gi (rd (gl s 4) i) 0) <;> try rfl
    by_cases h0 : i = 0
    · subst h0
      rw [decide_eq_false (p := (0 : Int) < ((0 : Nat) : Int)) (by omega)]
      rfl
    · rw [decide_eq_true (p := (0 : Int) < (i : Int)) (by omega), ZeR h0 (Nat.le_of_lt hi) hl, Zo (show i - 1 < (gl s 4).length by omega), Int.toNat_natCast, decide_eq_false h0, Zja (gi (rd (gl s 4) i) 0)]
      cases decide (gi (rd (gl s 4) (i - 1)) 0 < gi (rd (gl s 4) i) 0) <;> rfl
  · intro m; simp only [ZaZ, Z3, cond_false]; rfl
theorem Zld {s : V} {i : Nat} : ZeJ s i = (decide (0 ≤ gi (rd (gl s 5) i) 0 ∧ gi (rd (gl s 5) i) 0 ≤ 3 ∧ 1 ≤ gi (rd (gl s 5) i) 1 ∧ gi (rd (gl s 5) i) 1 ≤ 1000000 ∧ 0 ≤ gi (rd (gl s 5) i) 2 ∧ gi (rd (gl s 5) i) 2 ≤ 5 ∧ 1 ≤ gi (rd (gl s 5) i) 3 ∧ gi (rd (gl s 5) i) 3 ≤ gi s 0) &&
  (decide (i = 0) || decide (gi (rd (gl s 5) (i - 1)) 0 < gi (rd (gl s 5) i) 0))) := rfl
theorem Zmp {s : V} (hs : Zb4 s) : Za3 ((gl s 5).length + 1) 0 (Za s) = bif (List.range (gl s 5).length).all (ZeJ s) then some (1, false) else some (0, false) := by
  have hl := hs.2.2.2.2.2.1
  refine Zd5 (F := fun m i => Za3 m i (Za s)) (n := (gl s 5).length) (q := ZeJ s) (yes := some (1, false)) (no := some (0, false)) ?_ ?_
  · intro m i hi
    simp only [Za3, show gl (Za s) 5 = gl s 5 from rfl, show gi (Za s) 0 = gi s 0 from rfl, show Za (Za s) = Za s from rfl, Zag hi, Zo hi, Int.toNat_natCast, cond_true, Z8 hi hl]
    rw [Zld]
    by_cases hc : 0 ≤ gi (rd (gl s 5) i) 0 ∧ gi (rd (gl s 5) i) 0 ≤ 3 ∧ 1 ≤ gi (rd (gl s 5) i) 1 ∧ gi (rd (gl s 5) i) 1 ≤ 1000000 ∧ 0 ≤ gi (rd (gl s 5) i) 2 ∧ gi (rd (gl s 5) i) 2 ≤ 5 ∧ 1 ≤ gi (rd (gl s 5) i) 3 ∧ gi (rd (gl s 5) i) 3 ≤ gi s 0
    · rw [decide_eq_true hc, decide_eq_false (p := gi (rd (gl s 5) i) 0 < 0) (by omega), decide_eq_false (p := (4 : Int) ≤ gi (rd (gl s 5) i) 0) (by omega), decide_eq_false (p := gi (rd (gl s 5) i) 1 < 1) (by omega), decide_eq_false (p := (1000000 : Int) < gi (rd (gl s 5) i) 1) (by omega), decide_eq_false (p := gi (rd (gl s 5) i) 2 < 0) (by omega), decide_eq_false (p := (5 : Int) < gi (rd (gl s 5) i) 2) (by omega), decide_eq_false (p := gi (rd (gl s 5) i) 3 < 1) (by omega), decide_eq_false (p := gi s 0 < gi (rd (gl s 5) i) 3) (by omega)]
      by_cases h0 : i = 0
      · subst h0
        rw [decide_eq_false (p := (0 : Int) < ((0 : Nat) : Int)) (by omega)]
        rfl
      · rw [decide_eq_true (p := (0 : Int) < (i : Int)) (by omega), ZeR h0 (Nat.le_of_lt hi) hl, Zo (show i - 1 < (gl s 5).length by omega)]
        simp only [Int.toNat_natCast, decide_eq_false h0, Zja (gi (rd (gl s 5) i) 0)]
        cases decide (gi (rd (gl s 5) (i - 1)) 0 < gi (rd (gl s 5) i) 0) <;> rfl
    · rw [decide_eq_false hc, Bool.false_and, cond_false]
      cases h1 : decide (gi (rd (gl s 5) i) 0 < 0) <;> try rfl
      cases h2 : decide ((4 : Int) ≤ gi (rd (gl s 5) i) 0) <;> try rfl
      cases h3 : decide (gi (rd (gl s 5) i) 1 < 1) <;> try rfl
      cases h4 : decide ((1000000 : Int) < gi (rd (gl s 5) i) 1) <;> try rfl
      cases h5 : decide (gi (rd (gl s 5) i) 2 < 0) <;> try rfl
      cases h6 : decide ((5 : Int) < gi (rd (gl s 5) i) 2) <;> try rfl
      cases h7 : decide (gi (rd (gl s 5) i) 3 < 1) <;> try rfl
      cases h8 : decide (gi s 0 < gi (rd (gl s 5) i) 3) <;> try rfl
      simp only [decide_eq_false_iff_not] at h1 h2 h3 h4 h5 h6 h7 h8
      exact absurd (by omega) hc
  · intro m; simp only [Za3, show gl (Za s) 5 = gl s 5 from rfl, Z3, cond_false]
theorem Zmq {s : V} (hs : Zb4 s) : Za0 ((gl s 5).length + 1) (gl s 5) (((gl s 5).length : Nat) : Int) 0 (Za s) = bif (List.range (gl s 5).length).all (ZeJ s) then some (1, false) else some (0, false) := by
  have hl := hs.2.2.2.2.2.1
  refine Zd5 (F := fun m i => Za0 m (gl s 5) (((gl s 5).length : Nat) : Int) i (Za s)) (n := (gl s 5).length) (q := ZeJ s) (yes := some (1, false)) (no := some (0, false)) ?_ ?_
  · intro m i hi
    simp only [Za0, show gl (Za s) 5 = gl s 5 from rfl, show gi (Za s) 0 = gi s 0 from rfl, show Za (Za s) = Za s from rfl, Zag hi, Zo hi, Int.toNat_natCast, cond_true, Z8 hi hl, Zd8]
    rw [Zld]
    by_cases hc : 0 ≤ gi (rd (gl s 5) i) 0 ∧ gi (rd (gl s 5) i) 0 ≤ 3 ∧ 1 ≤ gi (rd (gl s 5) i) 1 ∧ gi (rd (gl s 5) i) 1 ≤ 1000000 ∧ 0 ≤ gi (rd (gl s 5) i) 2 ∧ gi (rd (gl s 5) i) 2 ≤ 5 ∧ 1 ≤ gi (rd (gl s 5) i) 3 ∧ gi (rd (gl s 5) i) 3 ≤ gi s 0
    · rw [decide_eq_true hc, decide_eq_true (p := 0 ≤ gi (rd (gl s 5) i) 0 ∧ gi (rd (gl s 5) i) 0 ≤ 3) (by omega), decide_eq_true (p := 1 ≤ gi (rd (gl s 5) i) 1 ∧ gi (rd (gl s 5) i) 1 ≤ 1000000) (by omega), decide_eq_true (p := 0 ≤ gi (rd (gl s 5) i) 2 ∧ gi (rd (gl s 5) i) 2 ≤ 5) (by omega), decide_eq_true (p := 1 ≤ gi (rd (gl s 5) i) 3 ∧ gi (rd (gl s 5) i) 3 ≤ gi s 0) (by omega)]
      by_cases h0 : i = 0
      · subst h0
        rw [decide_eq_false (p := (0 : Int) < ((0 : Nat) : Int)) (by omega)]
        rfl
      · rw [decide_eq_true (p := (0 : Int) < (i : Int)) (by omega), ZeR h0 (Nat.le_of_lt hi) hl, Zo (show i - 1 < (gl s 5).length by omega)]
        simp only [Int.toNat_natCast, decide_eq_false h0, Zja (gi (rd (gl s 5) i) 0)]
        cases decide (gi (rd (gl s 5) (i - 1)) 0 < gi (rd (gl s 5) i) 0) <;> rfl
    · rw [decide_eq_false hc, Bool.false_and, cond_false]
      cases h1 : decide (0 ≤ gi (rd (gl s 5) i) 0 ∧ gi (rd (gl s 5) i) 0 ≤ 3) <;> try rfl
      cases h2 : decide (1 ≤ gi (rd (gl s 5) i) 1 ∧ gi (rd (gl s 5) i) 1 ≤ 1000000) <;> try rfl
      cases h3 : decide (0 ≤ gi (rd (gl s 5) i) 2 ∧ gi (rd (gl s 5) i) 2 ≤ 5) <;> try rfl
      cases h4 : decide (1 ≤ gi (rd (gl s 5) i) 3 ∧ gi (rd (gl s 5) i) 3 ≤ gi s 0) <;> try rfl
      rw [decide_eq_true_eq] at h1 h2 h3 h4
      exact absurd (by omega) hc
  · intro m; simp only [Za0, Z3, cond_false]
theorem ZgX {s : V} (hs : Zb4 s) : Zd7 (Za s) = some (ZaJ s) := by
  unfold Zd7 ZaJ
  simp only [show gl (Za s) 1 = gl s 1 from rfl, show gl (Za s) 2 = gl s 2 from rfl, show gl (Za s) 4 = gl s 4 from rfl, show gl (Za s) 5 = gl s 5 from rfl, show gi (Za s) 0 = gi s 0 from rfl, show gi (Za s) 3 = gi s 3 from rfl, show Za (Za s) = Za s from rfl, Zbd]
  have h0 : Zde (gi s 0) = decide (0 ≤ gi s 0 ∧ gi s 0 ≤ 1000000) := by
    unfold Zde
    by_cases h : 0 ≤ gi s 0 <;> simp [h]
  rw [h0]
  by_cases hh : 0 ≤ gi s 0 ∧ gi s 0 ≤ 1000000 ∧ 0 ≤ gi s 3 ∧ gi s 3 ≤ gi s 0 ∧ (gl s 1).length ≤ 20 ∧ (gl s 2).length ≤ 10 ∧ (gl s 4).length ≤ 8 ∧ (gl s 5).length ≤ 4
  · rw [show Zlc s = true from decide_eq_true hh, decide_eq_true (p := 0 ≤ gi s 0 ∧ gi s 0 ≤ 1000000) (by omega), decide_eq_false (p := (20 : Int) < (((gl s 1).length : Nat) : Int)) (by omega), decide_eq_false (p := (10 : Int) < (((gl s 2).length : Nat) : Int)) (by omega), decide_eq_false (p := gi s 3 < 0) (by omega), decide_eq_false (p := gi s 0 < gi s 3) (by omega), decide_eq_false (p := (8 : Int) < (((gl s 4).length : Nat) : Int)) (by omega), decide_eq_false (p := (4 : Int) < (((gl s 5).length : Nat) : Int)) (by omega)]
    simp only [Bool.not_true, cond_false, Bool.true_and, Znp hs]
    cases (List.range (gl s 1).length).all (Zd9 s) <;> simp only [cond_true, cond_false, Option.bind_some] <;> try rfl
    simp only [show Nat.beq 1 0 = false from rfl, cond_false, show Za (Za s) = Za s from rfl, show gl (Za s) 2 = gl s 2 from rfl, Zmn hs]
    cases (List.range (gl s 2).length).all (ZcC s) <;> simp only [cond_true, cond_false, Option.bind_some] <;> try rfl
    simp only [show Nat.beq 1 0 = false from rfl, cond_false, show Za (Za s) = Za s from rfl, show gl (Za s) 4 = gl s 4 from rfl, Znr hs]
    cases (List.range (gl s 4).length).all (ZdW s) <;> simp only [cond_true, cond_false, Option.bind_some] <;> try rfl
    simp only [show Nat.beq 1 0 = false from rfl, cond_false, show Za (Za s) = Za s from rfl, show gl (Za s) 5 = gl s 5 from rfl, Zmp hs]
    cases (List.range (gl s 5).length).all (ZeJ s) <;> rfl
  · rw [show Zlc s = false from decide_eq_false hh, Bool.false_and]
    cases h1 : decide (0 ≤ gi s 0 ∧ gi s 0 ≤ 1000000) <;> try rfl
    cases h2 : decide ((20 : Int) < (((gl s 1).length : Nat) : Int)) <;> try rfl
    cases h3 : decide ((10 : Int) < (((gl s 2).length : Nat) : Int)) <;> try rfl
    cases h4 : decide (gi s 3 < 0) <;> try rfl
    cases h5 : decide (gi s 0 < gi s 3) <;> try rfl
    cases h6 : decide ((8 : Int) < (((gl s 4).length : Nat) : Int)) <;> try rfl
    cases h7 : decide ((4 : Int) < (((gl s 5).length : Nat) : Int)) <;> try rfl
    simp only [decide_eq_false_iff_not, decide_eq_true_eq] at h1 h2 h3 h4 h5 h6 h7
    exact absurd (by omega) hh
theorem Zfp {s : V} (hs : Zb4 s) : Zd6 (Za s) = some (ZaJ s) := by
  unfold Zd6 ZaJ
  simp only [show gl (Za s) 1 = gl s 1 from rfl, show gl (Za s) 2 = gl s 2 from rfl, show gl (Za s) 4 = gl s 4 from rfl, show gl (Za s) 5 = gl s 5 from rfl, show gi (Za s) 0 = gi s 0 from rfl, show gi (Za s) 3 = gi s 3 from rfl, show Za (Za s) = Za s from rfl, Zbd, Zd8]
  by_cases hh : 0 ≤ gi s 0 ∧ gi s 0 ≤ 1000000 ∧ 0 ≤ gi s 3 ∧ gi s 3 ≤ gi s 0 ∧ (gl s 1).length ≤ 20 ∧ (gl s 2).length ≤ 10 ∧ (gl s 4).length ≤ 8 ∧ (gl s 5).length ≤ 4
  · rw [show Zlc s = true from decide_eq_true hh, decide_eq_true (p := 0 ≤ gi s 0 ∧ gi s 0 ≤ 1000000) (by omega), decide_eq_true (p := 0 ≤ gi s 3 ∧ gi s 3 ≤ gi s 0) (by omega), decide_eq_false (p := (20 : Int) < (((gl s 1).length : Nat) : Int)) (by omega), decide_eq_false (p := (10 : Int) < (((gl s 2).length : Nat) : Int)) (by omega), decide_eq_false (p := (8 : Int) < (((gl s 4).length : Nat) : Int)) (by omega), decide_eq_false (p := (4 : Int) < (((gl s 5).length : Nat) : Int)) (by omega)]
    simp only [Bool.not_true, cond_false, Bool.true_and, Znq hs]
    cases hr : (List.range (gl s 1).length).all (Zd9 s) <;> simp only [cond_true, cond_false, Option.bind_some] <;> try rfl
    simp only [show Nat.beq 1 0 = false from rfl, cond_false, show Za (Za s) = Za s from rfl, show gl (Za s) 2 = gl s 2 from rfl, show gi (Za s) 3 = gi s 3 from rfl, Zmo hs (by omega) (Zno hr)]
    cases (List.range (gl s 2).length).all (ZcC s) <;> simp only [cond_true, cond_false, Option.bind_some] <;> try rfl
    simp only [show Nat.beq 1 0 = false from rfl, cond_false, show Za (Za s) = Za s from rfl, show gl (Za s) 4 = gl s 4 from rfl, Zns hs]
    cases (List.range (gl s 4).length).all (ZdW s) <;> simp only [cond_true, cond_false, Option.bind_some] <;> try rfl
    simp only [show Nat.beq 1 0 = false from rfl, cond_false, show Za (Za s) = Za s from rfl, show gl (Za s) 5 = gl s 5 from rfl, Zmq hs]
    cases (List.range (gl s 5).length).all (ZeJ s) <;> rfl
  · rw [show Zlc s = false from decide_eq_false hh, Bool.false_and]
    cases h1 : decide (0 ≤ gi s 0 ∧ gi s 0 ≤ 1000000) <;> try rfl
    cases h4 : decide (0 ≤ gi s 3 ∧ gi s 3 ≤ gi s 0) <;> try rfl
    cases h2 : decide ((20 : Int) < (((gl s 1).length : Nat) : Int)) <;> try rfl
    cases h3 : decide ((10 : Int) < (((gl s 2).length : Nat) : Int)) <;> try rfl
    cases h6 : decide ((8 : Int) < (((gl s 4).length : Nat) : Int)) <;> try rfl
    cases h7 : decide ((4 : Int) < (((gl s 5).length : Nat) : Int)) <;> try rfl
    simp only [decide_eq_false_iff_not, decide_eq_true_eq] at h1 h2 h3 h4 h6 h7
    exact absurd (by omega) hh
end Go.Eng.R
open Go Go.Eng
namespace Go.Eng.R
def Ok {α : Type} (P : α → Prop) (o : Option α) : Prop := ∃ x, o = some x ∧ P x
theorem Ok.bind {α β : Type} {P : β → Prop} {Q : α → Prop} {o : Option α} {f : α → Option β} (h : Ok Q o) (g : ∀ x, Q x → Ok P (f x)) : Ok P (Option.bind o f) := by
  obtain ⟨x, rfl, hx⟩ := h
  exact g x hx
theorem Ok.ret {α : Type} {P : α → Prop} {x : α} (h : P x) : Ok P (some x) := ⟨x, rfl, h⟩
theorem Ok.chk {α : Type} {P : α → Prop} {b : Bool} {x : Option α} (h : b = true) (g : Ok P x) : Ok P (bif b then x else none) := by subst h; exact g
theorem Ok.ite {α : Type} {P : α → Prop} {b : Bool} {x y : Option α} (g1 : b = true → Ok P x) (g2 : b = false → Ok P y) : Ok P (bif b then x else y) := by
  cases b with
  | true => exact g1 rfl
  | false => exact g2 rfl
theorem Ok.iteT {α : Type} {P : α → Prop} {b : Bool} {x y : Option α} (h : b = true) (g : Ok P x) : Ok P (bif b then x else y) := by subst h; exact g
theorem Ok.iteF {α : Type} {P : α → Prop} {b : Bool} {x y : Option α} (h : b = false) (g : Ok P y) : Ok P (bif b then x else y) := by subst h; exact g
def Ok2 {α β : Type} (P : α → β → Prop) (o : Option (α × β)) : Prop := ∃ x y, o = some (x, y) ∧ P x y
theorem Ok.bind2 {α β γ : Type} {P : γ → Prop} {Q : α → β → Prop} {o : Option (α × β)} {f : α × β → Option γ} (h : Ok2 Q o) (g : ∀ x y, Q x y → Ok P (f (x, y))) : Ok P (Option.bind o f) := by
  obtain ⟨x, y, rfl, hx⟩ := h
  exact g x y hx
theorem Ok2.of {α β : Type} {Q : α → β → Prop} {o : Option (α × β)} (h : Ok (fun r => Q r.1 r.2) o) : Ok2 Q o := by
  obtain ⟨⟨x, y⟩, e, hx⟩ := h
  exact ⟨x, y, e, hx⟩
theorem wrI (n : Int) : I64 (IntKind.i64.wrap n) := by unfold I64; rw [IntKind.wrap_i64]; omega
theorem LW.snoc {W : V → Prop} {l : List V} {x : V} (h : LW W l) (hl : l.length < 9223372036854775807) (hx : W x) : LW W (l ++ [x]) := by
  refine ⟨by simp; omega, fun y hy => ?_⟩
  rcases List.mem_append.1 hy with hy | hy
  · exact h.2 y hy
  · simp at hy; subst hy; exact hx
theorem LW.set' {W : V → Prop} {l : List V} {x : V} (h : LW W l) (j : Nat) (hx : W x) : LW W (l.set j x) := by
  refine ⟨by simpa using h.1, fun y hy => ?_⟩
  rcases List.mem_or_eq_of_mem_set hy with hy | hy
  · exact h.2 y hy
  · subst hy; exact hx
theorem LW.rep {W : V → Prop} {n : Nat} {x : V} (hn : n ≤ 9223372036854775807) (hx : W x) : LW W (List.replicate n x) :=
  ⟨by simpa using hn, fun y hy => by rw [List.mem_replicate] at hy; rw [hy.2]; exact hx⟩
theorem ZdA {i : Int} {n : Nat} (h0 : 0 ≤ i) (h1 : i < (n : Int)) : Zm i n = true := by simp [Zm]; omega
theorem room_of {n b : Nat} (h : n * b ≤ 140737488355328) (h1 : n ≤ 9223372036854775807) : (Zw n b && true) = true := by rw [ZhT h h1]; rfl
def allI : List V → Prop
  | [] => True
  | x :: l => I64 (gi x 0) ∧ allI l
theorem ZoE : ∀ {l : List V}, allI l → ∀ j, j < l.length → I64 (gi (rd l j) 0)
  | [], _, j, h => by simp at h
  | x :: l, ⟨h, _⟩, 0, _ => h
  | x :: l, ⟨_, h⟩, j + 1, hj => ZoE h j (by simpa using hj)
theorem gi_v0 (k : IntKind) (n : Int) : gi (V.int k n) 0 = n := rfl
theorem LW.takeL {W : V → Prop} {l : List V} (h : LW W l) (n : Nat) : LW W (l.take n) := ⟨by have := h.1; rw [List.length_take]; omega, fun x hx => h.2 x (List.mem_of_mem_take hx)⟩
theorem LW.dropL {W : V → Prop} {l : List V} (h : LW W l) (n : Nat) : LW W (l.drop n) := ⟨by have := h.1; rw [List.length_drop]; omega, fun x hx => h.2 x (List.mem_of_mem_drop hx)⟩
theorem W_int.mk {n : Int} (h : I64 n) : W_int (V.int .i64 n) := h
end Go.Eng.R
open Go Go.Eng
namespace Go.Eng.R
theorem Zjb (a : Int) {b : Int} (h0 : 0 ≤ b) (h1 : b ≤ 9223372036854775807) : 0 ≤ bAnd .i64 a b ∧ bAnd .i64 a b ≤ b := by
  unfold bAnd
  have e : (BitVec.ofInt (IntKind.bits .i64) b).toNat = b.toNat := by
    rw [BitVec.toNat_ofInt]
    rw [Int.emod_eq_of_lt h0 (by show b < ((2 ^ 64 : Nat) : Int); omega)]
  have h : (BitVec.ofInt (IntKind.bits .i64) a &&& BitVec.ofInt (IntKind.bits .i64) b).toNat ≤ b.toNat := by
    rw [BitVec.toNat_and, e]
    exact Nat.and_le_right
  rw [Zap (by omega) (by omega)]
  omega
def ZL (c : V) : Prop := LW ZS (gl c 0) ∧ 0 ≤ gi c 1 ∧ gi c 1 ≤ (((gl c 0).length : Nat) : Int)
theorem Zeo {c : V} (h : ZL c) : ∃ x c', ZbE (Zb c) = some (x, c') ∧ ZL c' ∧ 0 ≤ x ∧ x ≤ 255 ∧ gl c' 0 = gl c 0 := by
  obtain ⟨h1, h2, h3⟩ := h
  have hl := h1.1
  unfold ZbE
  simp only [show gl (Zb c) 0 = gl c 0 from rfl, show gi (Zb c) 1 = gi c 1 from rfl]
  by_cases hc : gi c 1 < (((gl c 0).length : Nat) : Int)
  · rw [decide_eq_true hc, show Zm (gi c 1) (gl c 0).length = true from by simp [Zm]; omega]
    simp only [cond_true]
    refine ⟨_, _, rfl, ⟨h1, ?_, ?_⟩, (Zjb _ (by decide) (by decide)).1, (Zjb _ (by decide) (by decide)).2, rfl⟩
    · show 0 ≤ IntKind.i64.wrap (gi c 1 + 1)
      rw [Zap (by omega) (by omega)]; omega
    · show IntKind.i64.wrap (gi c 1 + 1) ≤ _
      rw [Zap (by omega) (by omega)]; show gi c 1 + 1 ≤ (((gl c 0).length : Nat) : Int); omega
  · rw [decide_eq_false hc]
    simp only [cond_false]
    exact ⟨_, _, rfl, ⟨h1, h2, h3⟩, (Zjb _ (by decide) (by decide)).1, (Zjb _ (by decide) (by decide)).2, rfl⟩
theorem Zep {x n : Int} (hx : 0 ≤ x) (hn : 0 < n) : 0 ≤ x.tmod n ∧ x.tmod n < n := by
  rw [Int.tmod_eq_emod_of_nonneg hx]
  exact ⟨Int.emod_nonneg _ (by omega), Int.emod_lt_of_pos _ hn⟩
theorem ZhY {c : V} (h : ZL c) {n : Int} (hn : 0 < n) : ∃ x c', Zh (Zb c) n = some (x, c') ∧ ZL c' ∧ 0 ≤ x ∧ x < n := by
  unfold Zh
  rw [decide_eq_false (p := n ≤ 0) (by omega), decide_eq_false (p := n = 0) (by omega)]
  simp only [cond_false, show Zb (Zb c) = Zb c from rfl]
  obtain ⟨x, c', e, h', x0, x1, -⟩ := Zeo h
  by_cases h2 : n ≤ 256
  · rw [decide_eq_true h2, e]
    exact ⟨_, _, rfl, h', (Zep x0 hn).1, (Zep x0 hn).2⟩
  · rw [decide_eq_false h2, e]
    obtain ⟨x2, c2, e2, h2', y0, y1, -⟩ := Zeo h'
    obtain ⟨x3, c3, e3, h3', z0', z1, -⟩ := Zeo h2'
    obtain ⟨x4, c4, e4, h4', w0, w1, -⟩ := Zeo h3'
    simp only [Option.bind_some, e2, e3, e4, cond_false, Bool.not_false, cond_true]
    have hs : IntKind.i64.wrap (IntKind.i64.wrap (IntKind.i64.wrap (IntKind.i64.wrap (x * 16777216) + IntKind.i64.wrap (x2 * 65536)) + IntKind.i64.wrap (x3 * 256)) + x4) = x * 16777216 + x2 * 65536 + x3 * 256 + x4 := by
      rw [Zap (n := x * 16777216) (by omega) (by omega), Zap (n := x2 * 65536) (by omega) (by omega), Zap (n := x3 * 256) (by omega) (by omega), Zap (n := x * 16777216 + x2 * 65536) (by omega) (by omega), Zap (n := x * 16777216 + x2 * 65536 + x3 * 256) (by omega) (by omega), Zap (by omega) (by omega)]
    rw [hs]
    have hm := Zep (x := x * 16777216 + x2 * 65536 + x3 * 256 + x4) (by omega) hn
    exact ⟨_, _, rfl, h4', hm.1, hm.2⟩
theorem ZoF {c : V} (h : ZL c) {l : List V} (hl : 0 < l.length) : ∃ j c', ZN (Zb c) l = some (gi (rd l j) 0, c') ∧ ZL c' ∧ j < l.length := by
  obtain ⟨x, c', e, h', x0, x1⟩ := ZhY h (n := ((l.length : Nat) : Int)) (by omega)
  unfold ZN
  rw [show Zb (Zb c) = Zb c from rfl, e]
  simp only [Option.bind_some]
  rw [show Zm x l.length = true from by simp [Zm]; omega]
  exact ⟨x.toNat, _, rfl, h', by omega⟩
theorem new_ok {code : List V} (h : LW ZS code) : ∃ c, Zek code = some c ∧ ZL c := by
  unfold Zek
  rw [Zbd]
  have key := Zdj (F := fun m s i => Zb7 m code s i) (n := code.length) (I := fun _ _ => True) (Q := fun r => ∃ s, r = some (code, s)) ?_ ?_ (s := IntKind.i64.wrap (36565 + ((code.length : Nat) : Int))) trivial
  · obtain ⟨s, e⟩ := key
    refine ⟨_, congrArg (fun o => Option.bind o _) e, h, by show (0 : Int) ≤ 0; decide, by show (0 : Int) ≤ ((code.length : Nat) : Int); omega⟩
  · intro m i s hi _
    simp only [Zb7, Zag hi, Zo hi, cond_true, Z8 hi h.1]
    by_cases h4 : (i : Int) < 4000
    · rw [decide_eq_true h4]; exact .inl ⟨_, rfl, trivial⟩
    · rw [decide_eq_false h4]; exact .inr ⟨_, rfl⟩
  · intro m s _
    simp only [Zb7, Z3, cond_false]
    exact ⟨_, rfl⟩
theorem tmod_O {x n : Int} (h0 : 0 ≤ x) (h1 : 0 < n) : 0 ≤ x.tmod n ∧ x.tmod n ≤ x ∧ x.tmod n < n := by
  have := Zep h0 h1
  refine ⟨this.1, ?_, this.2⟩
  rw [Int.tmod_eq_emod_of_nonneg h0]
  have h2 := Int.mul_ediv_add_emod x n
  have h3 : 0 ≤ n * (x / n) := Int.mul_nonneg (by omega) (Int.ediv_nonneg h0 (by omega))
  omega
theorem ZoG {c : V} (h : ZL c) (n : Int) : Ok (fun r => ZL r.2 ∧ 0 ≤ r.1 ∧ r.1 ≤ 4294967295 ∧ (r.1 < n ∨ r.1 = 0)) (Zh (Zb c) n) := by
  by_cases hn : 0 < n
  · unfold Zh
    rw [decide_eq_false (p := n ≤ 0) (by omega), decide_eq_false (p := n = 0) (by omega)]
    simp only [cond_false, show Zb (Zb c) = Zb c from rfl]
    obtain ⟨x, c', e, h', x0, x1, -⟩ := Zeo h
    by_cases h2 : n ≤ 256
    · rw [decide_eq_true h2, e]
      obtain ⟨m0, m1, m2⟩ := tmod_O x0 hn
      exact ⟨_, rfl, h', m0, by show x.tmod n ≤ _; omega, .inl m2⟩
    · rw [decide_eq_false h2, e]
      obtain ⟨x2, c2, e2, h2', y0, y1, -⟩ := Zeo h'
      obtain ⟨x3, c3, e3, h3', z0', z1, -⟩ := Zeo h2'
      obtain ⟨x4, c4, e4, h4', w0, w1, -⟩ := Zeo h3'
      simp only [Option.bind_some, e2, e3, e4, cond_false, Bool.not_false, cond_true]
      have hs : IntKind.i64.wrap (IntKind.i64.wrap (IntKind.i64.wrap (IntKind.i64.wrap (x * 16777216) + IntKind.i64.wrap (x2 * 65536)) + IntKind.i64.wrap (x3 * 256)) + x4) = x * 16777216 + x2 * 65536 + x3 * 256 + x4 := by
        rw [Zap (n := x * 16777216) (by omega) (by omega), Zap (n := x2 * 65536) (by omega) (by omega), Zap (n := x3 * 256) (by omega) (by omega), Zap (n := x * 16777216 + x2 * 65536) (by omega) (by omega), Zap (n := x * 16777216 + x2 * 65536 + x3 * 256) (by omega) (by omega), Zap (by omega) (by omega)]
      rw [hs]
      obtain ⟨m0, m1, m2⟩ := tmod_O (x := x * 16777216 + x2 * 65536 + x3 * 256 + x4) (by omega) hn
      exact ⟨_, rfl, h4', m0, by show Int.tmod _ n ≤ _; omega, .inl m2⟩
  · unfold Zh
    rw [decide_eq_true (p := n ≤ 0) (by omega)]
    exact ⟨_, rfl, h, by show (0 : Int) ≤ 0; omega, by show (0 : Int) ≤ 4294967295; omega, .inr rfl⟩
theorem Zfq {c : V} (h : ZL c) (n : Int) : Ok (fun r => ZL r.2) (ZH (Zb c) n) := by
  obtain ⟨x, e, h', -⟩ := ZoG h n
  unfold ZH
  rw [show Zb (Zb c) = Zb c from rfl, e]
  exact ⟨_, rfl, h'⟩
theorem pick_O {c : V} (h : ZL c) {l : List V} (hl : 0 < l.length) (ha : allI l) : Ok (fun r => ZL r.2 ∧ I64 r.1) (ZN (Zb c) l) := by
  obtain ⟨j, c', e, h1, h2⟩ := ZoF h hl
  exact ⟨_, e, h1, ZoE ha j h2⟩
theorem new_O {code : List V} (h : LW ZS code) : Ok ZL (Zek code) := by
  obtain ⟨c, e, h1⟩ := new_ok h
  exact ⟨_, e, h1⟩
theorem nn_cur (c : V) : Zb (Zb c) = Zb c := rfl
theorem ZbM {c : V} (h : ZL c) (n : Int) : Ok2 (fun x c => ZL c ∧ 0 ≤ x ∧ x ≤ 4294967295 ∧ (x < n ∨ x = 0)) (Zh (Zb c) n) := .of (ZoG h n)
theorem Zfr {c : V} (h : ZL c) (n : Int) : Ok2 (fun (x : Bool) c => ZL c) (ZH (Zb c) n) := .of (Zfq h n)
theorem Zf0 {c : V} (h : ZL c) {l : List V} (hl : 0 < l.length) (ha : allI l) : Ok2 (fun x c => ZL c ∧ I64 x) (ZN (Zb c) l) := .of (pick_O h hl ha)
end Go.Eng.R
open Go Go.Eng
namespace Go.Eng.R
set_option maxRecDepth 100000
def BS (l : List V) : Prop := LW ZS l ∧ l.length ≤ 20
def bsB (l : List V) : Bool := l.all (fun x => decide (0 ≤ gi x 0 ∧ gi x 0 ≤ 255)) && decide (l.length ≤ 20)
theorem ZeS {l : List V} (h : bsB l = true) : BS l := by
  unfold bsB at h
  simp only [Bool.and_eq_true, List.all_eq_true, decide_eq_true_eq] at h
  exact ⟨⟨by omega, fun x hx => h.1 x hx⟩, h.2⟩
theorem BS.nil : BS [] := ZeS rfl
def bsAll (l : List V) : Bool := l.all fun x => bsB (gs x 0)
theorem bsAll_rd {l : List V} (h : bsAll l = true) {j : Nat} (hj : j < l.length) : BS (gs (rd l j) 0) := by
  unfold bsAll at h
  rw [List.all_eq_true] at h
  refine ZeS (h _ ?_)
  rw [ZdT hj]; exact List.getElem_mem hj
theorem ZpZ {c : V} (h : ZL c) : Ok2 (fun x c => ZL c ∧ BS x) (Zco (Zb c)) := by
  obtain ⟨x, c', e, h', x0, x1⟩ := ZhY h (n := 5) (by decide)
  unfold Zco
  rw [show Zb (Zb c) = Zb c from rfl, e]
  simp only [Option.bind_some]
  rw [show Zm x 5 = true from by simp [Zm]; omega]
  obtain ⟨j, rfl⟩ := Int.eq_ofNat_of_zero_le x0
  have hj : j = 0 ∨ j = 1 ∨ j = 2 ∨ j = 3 ∨ j = 4 := by omega
  rcases hj with rfl | rfl | rfl | rfl | rfl <;> exact ⟨_, _, rfl, h', ZeS rfl⟩
theorem ZlY {c : V} (h : ZL c) : Ok2 (fun x c => ZL c ∧ BS x) (ZaS (Zb c)) := by
  obtain ⟨x, c', e, h', x0, x1⟩ := ZhY h (n := 5) (by decide)
  unfold ZaS
  rw [show Zb (Zb c) = Zb c from rfl, e]
  simp only [Option.bind_some]
  rw [show Zm x 5 = true from by simp [Zm]; omega]
  obtain ⟨j, rfl⟩ := Int.eq_ofNat_of_zero_le x0
  have hj : j = 0 ∨ j = 1 ∨ j = 2 ∨ j = 3 ∨ j = 4 := by omega
  rcases hj with rfl | rfl | rfl | rfl | rfl <;> exact ⟨_, _, rfl, h', ZeS rfl⟩
end Go.Eng.R
open Go Go.Eng
namespace Go.Eng.R
set_option maxRecDepth 100000
structure SD where
  idx : Int
  rows : List V
  tombs : List V
  lost : Int
  sess : List V
  lasts : List V
def SD.v (s : SD) : V := V.agg [(V.int .i64 s.idx), (V.inl Zg s.rows), (V.inl Zf s.tombs), (V.int .i64 s.lost), (V.inl Zd s.sess), (V.inl Ze s.lasts)]
def SD.b (s : SD) (a b c d : Nat) : V := V.agg [(V.int .i64 s.idx), (V.sl a Zg 0 none), (V.sl b Zf 0 none), (V.int .i64 s.lost), (V.sl c Zd 0 none), (V.sl d Ze 0 none)]
def ZU (k v : List V) (t h : Int) : V := V.agg [(V.inl Zc k), (V.inl Zc v), (V.int .i64 t), (V.int .i64 h)]
def Za5 (k : List V) (i : Int) : V := V.agg [(V.inl Zc k), (V.int .i64 i)]
def Zjc (i : Int) (d : Bool) : V := V.agg [(V.int .i64 i), (V.bool d)]
def Zgg (c r co i : Int) : V := V.agg [(V.int .i64 c), (V.int .i64 r), (V.int .i64 co), (V.int .i64 i)]
def Zae (l : List V) (i : Nat) : List V := l.take i ++ l.drop (i + 1)
def Z2 (l : List V) (i : Nat) (x : V) : List V := l.take i ++ [x] ++ l.drop i
theorem Zcz {l : List V} {i : Nat} (h : i < l.length) : (Zae l i).length = l.length - 1 := by unfold Zae; rw [List.length_append, List.length_take, List.length_drop]; omega
theorem ZcS {l : List V} {i : Nat} {x : V} (h : i ≤ l.length) : (Z2 l i x).length = l.length + 1 := by unfold Z2; rw [List.length_append, List.length_append, List.length_take, List.length_drop, List.length_singleton]; omega
theorem Zbe {l : List V} {j : Nat} (h : j < l.length) (x : V) : rd (l.set j x) j = x := by simp [rd, List.getD, h]
theorem ZdM {l : List V} {i j : Nat} (h : j ≠ i) (x : V) : rd (l.set i x) j = rd l j := by simp [rd, List.getD, List.getElem?_set, Ne.symm h]
theorem Zaf {n b : Nat} (h : n * b ≤ 140737488355328) (h1 : n ≤ 9223372036854775807) : (Zw n b && true) = true := by rw [ZhT h h1]; rfl
theorem leT {i n : Nat} (h : i ≤ n) : (decide ((0 : Int) ≤ (i : Int)) && decide ((i : Int) ≤ ((n : Nat) : Int))) = true := by
  rw [decide_eq_true (show (0 : Int) ≤ (i : Int) by omega), decide_eq_true (show (i : Int) ≤ ((n : Nat) : Int) by omega)]; rfl
theorem Zjd (l : List V) (n : Nat) : (l.drop n).take (l.length - n) = l.drop n := List.take_of_length_le (by rw [List.length_drop]; exact Nat.le_refl _)
def ZaT (l : List V) (k : List V) : Nat := match Zr (fun i => !nlt (gl (rd l i) 0) k) 0 l.length with | some j => j | none => l.length
def SD.bury (s : SD) (i : Nat) : SD :=
  bif decide (10 < s.tombs.length + 1) then { s with rows := Zae s.rows i, tombs := (s.tombs ++ [Za5 (gl (rd s.rows i) 0) s.idx]).drop 1, lost := gi (rd (s.tombs ++ [Za5 (gl (rd s.rows i) 0) s.idx]) 0) 1 }
  else { s with rows := Zae s.rows i, tombs := s.tombs ++ [Za5 (gl (rd s.rows i) 0) s.idx] }
theorem ZiJ {s : SD} {i : Nat} (hi : i < s.rows.length) (hr : s.rows.length ≤ 1000) (ht : s.tombs.length ≤ 9) : Zda s.v (i : Int) = some (s.bury i).v := by
  unfold Zda
  have e1 : IntKind.i64.wrap ((i : Int) + 1) = ((i + 1 : Nat) : Int) := by rw [Zap (by omega) (by omega)]; omega
  simp only [show gl s.v 1 = s.rows from rfl, show gl s.v 2 = s.tombs from rfl, show gl s.v 4 = s.sess from rfl, show gl s.v 5 = s.lasts from rfl, show gi s.v 0 = s.idx from rfl, show gi s.v 3 = s.lost from rfl, e1, Zo hi, leT (Nat.le_of_lt hi), leT (show i + 1 ≤ s.rows.length from hi), Int.toNat_natCast, Nat.zero_add, Zjd, cond_true, List.length_take, List.length_drop]
  rw [Zaf (by omega) (by omega), Zaf (by omega) (by omega), Zaf (by omega) (by omega), Zaf (by omega) (by omega)]
  simp only [cond_true]
  have hl : (s.tombs ++ [V.agg [V.inl Zc (gl (rd s.rows i) 0), V.int .i64 s.idx]]).length = s.tombs.length + 1 := by rw [List.length_append, List.length_singleton]
  have e2 : ∀ n, Zcc (n + 1) (s.b 1 2 3 4) (Zae s.rows i) (s.tombs ++ [V.agg [V.inl Zc (gl (rd s.rows i) 0), V.int .i64 s.idx]]) s.sess s.lasts = some (s.b 1 2 3 4, Zae s.rows i, s.tombs ++ [V.agg [V.inl Zc (gl (rd s.rows i) 0), V.int .i64 s.idx]], s.sess, s.lasts) := fun n => by
    rw [Zcc, hl, show decide ((10 : Int) < ((s.tombs.length + 1 : Nat) : Int)) = false from decide_eq_false (by omega)]; rfl
  refine Eq.trans (congrArg (fun o => Option.bind o _) (show _ = _ from e2 _)) ?_
  unfold SD.bury
  rw [decide_eq_false (show ¬ 10 < s.tombs.length + 1 by omega)]
  rfl
def SD.put (s : SD) (key val : List V) : Bool × SD :=
  match Zr (fun i => neq (gl (rd s.rows i) 0) key) 0 s.rows.length with
  | some j => (true, { s with rows := s.rows.set j (ZU (gl (rd s.rows j) 0) val s.idx (gi (rd s.rows j) 3)) })
  | none => bif decide (20 ≤ s.rows.length) then (false, s) else
    (true, { s with rows := Z2 s.rows (ZaT s.rows key) (ZU key val s.idx 0), tombs := match Zr (fun i => neq (gl (rd s.tombs i) 0) key) 0 s.tombs.length with | some j => Zae s.tombs j | none => s.tombs })
theorem ZdN {l k : List V} {j : Nat} (h : Zr (fun i => neq (gl (rd l i) 0) k) 0 l.length = some j) : fK l k = (j : Int) := by unfold fK; rw [h]
theorem Ze1 {l k : List V} (h : Zr (fun i => neq (gl (rd l i) 0) k) 0 l.length = none) : fK l k = -1 := by unfold fK; rw [h]
theorem ZbL {l k : List V} {j : Nat} (h : Zr (fun i => neq (gl (rd l i) 0) k) 0 l.length = some j) : j < l.length := by
  have := ZX h; omega
theorem Zgh (l k : List V) : ZaT l k ≤ l.length := by
  unfold ZaT
  cases h : Zr (fun i => !nlt (gl (rd l i) 0) k) 0 l.length with
  | none => exact Nat.le_refl _
  | some j => have := ZX h; show j ≤ _; omega
theorem Znt {s : SD} {key val : List V} {r1 r2 r3 r4 : List V} (hr : r1.length ≤ 1000) : Z9 (r1.length + 1) key val 0 (s.b 1 2 3 4) r1 r2 r3 r4 = some (key, val, ((ZaT r1 key : Nat) : Int), s.b 1 2 3 4, r1, r2, r3, r4) := by
  unfold ZaT
  rw [show (0 : Int) = ((0 : Nat) : Int) from rfl, Zdk (F := fun m i => Z9 m key val i (s.b 1 2 3 4) r1 r2 r3 r4) (n := r1.length) (q := fun i => !nlt (gl (rd r1 i) 0) key) (out := fun j => some (key, val, j, s.b 1 2 3 4, r1, r2, r3, r4)) (no := some (key, val, ((r1.length : Nat) : Int), s.b 1 2 3 4, r1, r2, r3, r4)) ?_ ?_ (r1.length + 1) 0 (by omega) (by omega), Nat.sub_zero]
  · cases Zr (fun i => !nlt (gl (rd r1 i) 0) key) 0 r1.length <;> rfl
  · intro m i hi
    show Z9 (m + 1) key val (i : Int) (s.b 1 2 3 4) r1 r2 r3 r4 = _
    rw [Z9]
    simp only [Zag hi, Zo hi, Int.toNat_natCast, Nat.zero_add, cond_true, Z8 hi (show r1.length ≤ 9223372036854775807 by omega), ZoD]
    cases nlt (gl (rd r1 i) 0) key <;> rfl
  · intro m
    show Z9 (m + 1) key val ((r1.length : Nat) : Int) (s.b 1 2 3 4) r1 r2 r3 r4 = _
    rw [Z9, Z3]; rfl
theorem ZjJ {s : SD} {key val : List V} (hr : s.rows.length ≤ 1000) (ht : s.tombs.length ≤ 1000) (hk : key.length ≤ 1000) (hv : val.length ≤ 1000) : Zaq s.v key val = some ((s.put key val).1, (s.put key val).2.v) := by
  have er : Zbb (Za s.v) key = some (fK s.rows key) := ZeI (s := s.v) (show s.rows.length ≤ _ by omega) key
  have et : ZdJ (Za s.v) key = some (fK s.tombs key) := Zhs (s := s.v) (show s.tombs.length ≤ _ by omega) key
  unfold Zaq SD.put
  rw [er]
  cases hf : Zr (fun i => neq (gl (rd s.rows i) 0) key) 0 s.rows.length with
  | some j =>
    have hj := ZbL hf
    rw [ZdN hf]
    simp only [Option.bind_some, show gl s.v 1 = s.rows from rfl, Int.toNat_natCast, Nat.zero_add, List.length_set, Zo hj, Zbe hj, List.set_set, cond_true]
    rw [decide_eq_true (show (0 : Int) ≤ (j : Int) by omega), Zaf (by omega) (by omega)]
    rfl
  | none =>
    rw [Ze1 hf]
    simp only [Option.bind_some, show gl s.v 1 = s.rows from rfl, show gl s.v 2 = s.tombs from rfl, show gl s.v 4 = s.sess from rfl, show gl s.v 5 = s.lasts from rfl, et]
    rw [show decide ((0 : Int) ≤ -1) = false from rfl]
    simp only [cond_false]
    by_cases h20 : 20 ≤ s.rows.length
    · rw [decide_eq_true h20, show decide ((20 : Int) ≤ ((s.rows.length : Nat) : Int)) = true from decide_eq_true (by omega)]; rfl
    rw [decide_eq_false h20, show decide ((20 : Int) ≤ ((s.rows.length : Nat) : Int)) = false from decide_eq_false (by omega)]
    simp only [cond_false]
    have hg := Zgh s.rows key
    have tail : ∀ (tb : List V), (Option.bind (Z9 (((((s.rows).length : Nat) : Int) - 0).toNat + 1) key val 0 (s.b 1 2 3 4) s.rows tb s.sess s.lasts) fun r =>
        bif ((decide ((0 : Int) ≤ r.2.2.1)) && (decide (r.2.2.1 ≤ ((r.2.2.2.2.1.length : Nat) : Int)))) then
          bif ((Zw (0 + ((r.2.2.2.2.1.take r.2.2.1.toNat).length)) 64) && true) then
            bif ((Zw (0 + r.1.length) 1) && true) then
              bif ((Zw (0 + r.2.1.length) 1) && true) then
                bif ((Zw (((r.2.2.2.2.1.take r.2.2.1.toNat).length) + 1) 64) && true) then
                  bif ((decide ((0 : Int) ≤ r.2.2.1)) && (decide (r.2.2.1 ≤ ((r.2.2.2.2.1.length : Nat) : Int)))) then
                    bif ((Zw ((((r.2.2.2.2.1.take r.2.2.1.toNat) ++ [(V.agg [(V.inl Zc r.1), (V.inl Zc r.2.1), (V.int .i64 (gi r.2.2.2.1 0)), (V.int .i64 0)])]).length) + (((r.2.2.2.2.1.drop (0 + r.2.2.1.toNat)).take (r.2.2.2.2.1.length - r.2.2.1.toNat)).length)) 64) && true) then
                      some (true, (V.agg [(V.int .i64 (gi r.2.2.2.1 0)), (V.inl Zg (((r.2.2.2.2.1.take r.2.2.1.toNat) ++ [(V.agg [(V.inl Zc r.1), (V.inl Zc r.2.1), (V.int .i64 (gi r.2.2.2.1 0)), (V.int .i64 0)])]) ++ ((r.2.2.2.2.1.drop (0 + r.2.2.1.toNat)).take (r.2.2.2.2.1.length - r.2.2.1.toNat)))), (V.inl Zf r.2.2.2.2.2.1), (V.int .i64 (gi r.2.2.2.1 3)), (V.inl Zd r.2.2.2.2.2.2.1), (V.inl Ze r.2.2.2.2.2.2.2)]))
                    else none
                  else none
                else none
              else none
            else none
          else none
        else none) = some (true, ({ s with rows := Z2 s.rows (ZaT s.rows key) (ZU key val s.idx 0), tombs := tb } : SD).v) := fun tb => by
      rw [Zbd, Znt hr]
      simp only [Option.bind_some, Int.toNat_natCast, Nat.zero_add, Zjd, List.length_append, List.length_take, List.length_drop, List.length_singleton]
      rw [leT hg, Zaf (by omega) (by omega), Zaf (by omega) (by omega), Zaf (by omega) (by omega), Zaf (by omega) (by omega), Zaf (by omega) (by omega)]
      rfl
    cases hft : Zr (fun i => neq (gl (rd s.tombs i) 0) key) 0 s.tombs.length with
    | none =>
      rw [Ze1 hft, show decide ((0 : Int) ≤ -1) = false from rfl]
      exact tail s.tombs
    | some j =>
      have hj := ZbL hft
      have e1 : IntKind.i64.wrap ((j : Int) + 1) = ((j + 1 : Nat) : Int) := by rw [Zap (by omega) (by omega)]; omega
      rw [ZdN hft, decide_eq_true (show (0 : Int) ≤ (j : Int) by omega)]
      simp only [cond_true, e1, Int.toNat_natCast, Nat.zero_add, Zjd, List.length_take, List.length_drop, Bool.true_and, decide_eq_true (show (j : Int) ≤ ((s.tombs.length : Nat) : Int) by omega), leT (show j + 1 ≤ s.tombs.length from hj)]
      rw [Zaf (by omega) (by omega), Zaf (by omega) (by omega)]
      have t2 := tail (Zae s.tombs j)
      simp only [Int.toNat_natCast, Nat.zero_add, Zjd, List.length_take, List.length_drop] at t2
      exact t2
end Go.Eng.R
open Go Go.Eng
namespace Go.Eng.R
set_option maxRecDepth 100000
theorem Znu {s : SD} {i : Nat} (hi : i < s.rows.length) (ht : s.tombs.length ≤ 9) : s.bury i = { s with rows := Zae s.rows i, tombs := s.tombs ++ [Za5 (gl (rd s.rows i) 0) s.idx] } := by
  unfold SD.bury; rw [decide_eq_false (show ¬ 10 < s.tombs.length + 1 by omega)]; rfl
theorem Zp0 {s : SD} {i : Nat} (hi : i < s.rows.length) (ht : s.tombs.length ≤ 9) : (s.bury i).rows.length = s.rows.length - 1 ∧ (s.bury i).tombs.length = s.tombs.length + 1 := by
  rw [Znu hi ht]
  exact ⟨Zcz hi, by show (s.tombs ++ [_]).length = _; rw [List.length_append, List.length_singleton]⟩
def SD.shutL (id : Int) (del : Bool) : Nat → Nat → SD → SD
  | 0, _, s => s
  | n + 1, k, s => bif decide (k < s.rows.length) then
      bif !decide (gi (rd s.rows k) 3 = id) then SD.shutL id del n (k + 1) s
      else bif del then SD.shutL id del n k (s.bury k)
      else SD.shutL id del n (k + 1) { s with rows := s.rows.set k (ZU (gl (rd s.rows k) 0) (gl (rd s.rows k) 1) s.idx 0) }
    else s
def SD.shut (s : SD) (i : Nat) : SD := SD.shutL (gi (rd s.sess i) 0) (gb (rd s.sess i) 1) s.rows.length 0 { s with sess := Zae s.sess i }
theorem ZeK {id : Int} {del : Bool} : ∀ (n k : Nat) (s : SD), k ≤ s.rows.length → s.rows.length - k ≤ n → s.rows.length + s.tombs.length ≤ 9 → ∀ m, s.rows.length - k < m →
    Zav m (k : Int) (s.b 2 3 4 5) (Zjc id del) s.rows s.tombs s.sess s.lasts = some ((SD.shutL id del n k s).b 1 2 3 4, (SD.shutL id del n k s).rows, (SD.shutL id del n k s).tombs, (SD.shutL id del n k s).sess, (SD.shutL id del n k s).lasts)
  | n, k, s, hk, hn, hb, 0, hm => by omega
  | 0, k, s, hk, hn, hb, m + 1, hm => by
    obtain rfl : k = s.rows.length := by omega
    rw [Zav, Z3]; rfl
  | n + 1, k, s, hk, hn, hb, m + 1, hm => by
    by_cases h : k < s.rows.length
    case neg =>
      obtain rfl : k = s.rows.length := by omega
      rw [Zav, Z3, SD.shutL, decide_eq_false h]; rfl
    rw [Zav, SD.shutL, decide_eq_true h]
    simp only [Zag h, Zo h, Nat.zero_add, Int.toNat_natCast, cond_true, show gi (Zjc id del) 0 = id from rfl, show gb (Zjc id del) 1 = del from rfl, Z8 h (show s.rows.length ≤ 9223372036854775807 by omega)]
    by_cases hh : gi (rd s.rows k) 3 = id
    case neg =>
      rw [decide_eq_false hh]
      exact ZeK n (k + 1) s (by omega) (by omega) hb m (by omega)
    rw [decide_eq_true hh]
    cases del with
    | true =>
      obtain ⟨l1, l2⟩ := Zp0 h (by omega)
      simp only [Bool.not_true, cond_false, cond_true]
      refine Eq.trans (congrArg (fun o => Option.bind o _) (show _ = _ from ZiJ h (by omega) (by omega))) ?_
      have e1 : IntKind.i64.wrap (IntKind.i64.wrap ((k : Int) - 1) + 1) = (k : Int) := by rw [Zap (n := (k : Int) - 1) (by omega) (by omega), Zap (by omega) (by omega)]; omega
      rw [e1]
      exact ZeK n k (s.bury k) (by omega) (by omega) (by omega) m (by omega)
    | false =>
      simp only [Bool.not_true, cond_false, List.length_set, Zo h, cond_true, Zbe h, List.set_set]
      exact ZeK n (k + 1) { s with rows := s.rows.set k (ZU (gl (rd s.rows k) 0) (gl (rd s.rows k) 1) s.idx 0) } (by show k + 1 ≤ (s.rows.set k _).length; rw [List.length_set]; omega) (by show (s.rows.set k _).length - (k + 1) ≤ n; rw [List.length_set]; omega) (by show (s.rows.set k _).length + _ ≤ 9; rw [List.length_set]; exact hb) m (by show (s.rows.set k _).length - (k + 1) < m; rw [List.length_set]; omega)
theorem ZiK {s : SD} {i : Nat} (hi : i < s.sess.length) (hs : s.sess.length ≤ 1000) (hb : s.rows.length + s.tombs.length ≤ 9) : Zdb s.v (i : Int) = some (s.shut i).v := by
  unfold Zdb
  have e1 : IntKind.i64.wrap ((i : Int) + 1) = ((i + 1 : Nat) : Int) := by rw [Zap (by omega) (by omega)]; omega
  simp only [show gl s.v 1 = s.rows from rfl, show gl s.v 2 = s.tombs from rfl, show gl s.v 4 = s.sess from rfl, show gl s.v 5 = s.lasts from rfl, e1, Zo hi, leT (Nat.le_of_lt hi), leT (show i + 1 ≤ s.sess.length from hi), Int.toNat_natCast, Nat.zero_add, cond_true, List.length_take, List.length_drop]
  rw [Zaf (by omega) (by omega), Zaf (by omega) (by omega)]
  simp only [cond_true]
  rw [Zbd]
  refine Eq.trans (congrArg (fun o => Option.bind o _) (show _ = _ from ZeK (id := gi (rd s.sess i) 0) (del := gb (rd s.sess i) 1) s.rows.length 0 { s with sess := Zae s.sess i } (Nat.zero_le _) (by show s.rows.length - 0 ≤ _; omega) hb (s.rows.length + 1) (by show s.rows.length - 0 < _; omega))) ?_
  rfl
def SD.look (s : SD) (key : List V) : Option Nat := bif decide (0 < key.length) then Zr (fun i => neq (gl (rd s.rows i) 0) key) 0 s.rows.length else none
def SD.sessAt (s : SD) (id : Int) : Option Nat := Zr (fun i => decide (gi (rd s.sess i) 0 = id)) 0 s.sess.length
def ZdB (b : Bool) : Int := bif b then 0 else 4
def SD.hold (s : SD) (key : List V) (n : Int) : SD := match Zr (fun i => neq (gl (rd s.rows i) 0) key) 0 s.rows.length with
  | some j => { s with rows := s.rows.set j (ZU (gl (rd s.rows j) 0) (gl (rd s.rows j) 1) (gi (rd s.rows j) 2) n) }
  | none => s
def SD.puts (s : SD) (key val : List V) : Int × SD := (ZdB (s.put key val).1, (s.put key val).2)
def SD.do' (s : SD) (k : Int) (key val : List V) (n : Int) : Int × SD :=
  bif decide (k = 1) then s.puts key val
  else bif decide (k = 2) then
    bif decide ((match s.look key with | some j => gi (rd s.rows j) 2 | none => 0) = n) then s.puts key val else (3, s)
  else bif decide (k = 3) then (match s.look key with | some j => (0, s.bury j) | none => (1, s))
  else bif decide (k = 4) then bif decide (8 ≤ s.sess.length) then (4, s) else (0, { s with sess := s.sess ++ [Zjc s.idx (decide (n = 1))] })
  else bif decide (k = 5) then (match s.sessAt n with | some i => (0, s.shut i) | none => (1, s))
  else bif decide (k = 6) then (match s.sessAt n with
    | none => (1, s)
    | some _ => bif (match s.look key with | some j => !decide (gi (rd s.rows j) 3 = 0) && !decide (gi (rd s.rows j) 3 = n) | none => false) then (2, s)
      else bif (s.put key val).1 then (0, (s.put key val).2.hold key n) else (4, (s.put key val).2))
  else bif decide (k = 7) then (match s.look key with
    | some j => bif decide (gi (rd s.rows j) 3 = n) then (0, { s with rows := s.rows.set j (ZU (gl (rd s.rows j) 0) (gl (rd s.rows j) 1) s.idx 0) }) else (1, s)
    | none => (1, s))
  else (0, s)
theorem Zea (a : List V) : neq a a = true := by rw [Zcu]; exact decide_eq_true rfl
theorem Zje {l : List V} {i : Nat} {x : V} (h : i ≤ l.length) : rd (Z2 l i x) i = x := by
  unfold Z2
  have : (l.take i).length = i := by rw [List.length_take]; omega
  simp [rd, List.getD, List.getElem?_append, this]
theorem Zp1 {s : SD} {key val : List V} (h : (s.put key val).1 = true) : ∃ j, Zr (fun i => neq (gl (rd (s.put key val).2.rows i) 0) key) 0 (s.put key val).2.rows.length = some j ∧ j < (s.put key val).2.rows.length := by
  have fin : ∀ (l : List V) (i : Nat), i < l.length → neq (gl (rd l i) 0) key = true → ∃ j, Zr (fun i => neq (gl (rd l i) 0) key) 0 l.length = some j ∧ j < l.length := fun l i hi hn => by
    cases hf : Zr (fun i => neq (gl (rd l i) 0) key) 0 l.length with
    | none => have := firstI_none.1 hf i (Nat.zero_le _) (by omega); rw [hn] at this; cases this
    | some j => exact ⟨j, rfl, ZbL hf⟩
  revert h
  unfold SD.put
  cases hf : Zr (fun i => neq (gl (rd s.rows i) 0) key) 0 s.rows.length with
  | some j =>
    intro _
    have hj := ZbL hf
    have hq := (ZX hf).2.2.1
    refine fin (s.rows.set j _) j (by rw [List.length_set]; exact hj) ?_
    rw [Zbe hj]; exact hq
  | none =>
    cases decide (20 ≤ s.rows.length) with
    | true => intro h; cases h
    | false =>
      intro _
      have hg := Zgh s.rows key
      refine fin (Z2 s.rows (ZaT s.rows key) _) (ZaT s.rows key) (by rw [ZcS hg]; omega) ?_
      rw [Zje hg]; exact Zea key
theorem put_len {s : SD} {key val : List V} : (s.put key val).2.rows.length ≤ s.rows.length + 1 ∧ (s.put key val).2.tombs.length ≤ s.tombs.length := by
  unfold SD.put
  cases hf : Zr (fun i => neq (gl (rd s.rows i) 0) key) 0 s.rows.length with
  | some j => exact ⟨by show (s.rows.set j _).length ≤ _; rw [List.length_set]; omega, Nat.le_refl _⟩
  | none =>
    cases decide (20 ≤ s.rows.length) with
    | true => exact ⟨Nat.le_succ _, Nat.le_refl _⟩
    | false =>
      refine ⟨by show (Z2 s.rows _ _).length ≤ _; rw [ZcS (Zgh _ _)]; omega, ?_⟩
      cases hft : Zr (fun i => neq (gl (rd s.tombs i) 0) key) 0 s.tombs.length with
      | none => exact Nat.le_refl _
      | some j => show (Zae s.tombs j).length ≤ _; rw [Zcz (ZbL hft)]; omega
theorem Zgk {l : List V} {n : Int} {j : Nat} (h : Zr (fun i => decide (gi (rd l i) 0 = n)) 0 l.length = some j) : fI l n = (j : Int) := by unfold fI; rw [h]
theorem Zgl {l : List V} {n : Int} (h : Zr (fun i => decide (gi (rd l i) 0 = n)) 0 l.length = none) : fI l n = -1 := by unfold fI; rw [h]
end Go.Eng.R
open Go Go.Eng
namespace Go.Eng.R
set_option maxRecDepth 100000
theorem dF {p : Prop} [Decidable p] (h : ¬ p) : decide p = false := decide_eq_false h
theorem dT {p : Prop} [Decidable p] (h : p) : decide p = true := decide_eq_true h
theorem putP {s : SD} {key val : List V} (hr : s.rows.length ≤ 1000) (ht : s.tombs.length ≤ 1000) (hk : key.length ≤ 1000) (hv : val.length ≤ 1000) :
    (Option.bind (Zaq (Za s.v) key val) fun r => bif (!r.1) then some ((4 : Int), (Za r.2)) else some (0, (Za r.2))) = some ((s.puts key val).1, (s.puts key val).2.v) := by
  refine Eq.trans (congrArg (fun o => Option.bind o _) (show _ = _ from ZjJ hr ht hk hv)) ?_
  unfold SD.puts ZdB
  cases (s.put key val).1 <;> rfl
theorem takeP {s : SD} {key val : List V} {n : Int} (hr : s.rows.length ≤ 999) (ht : s.tombs.length ≤ 1000) (hk : key.length ≤ 1000) (hv : val.length ≤ 1000) :
    (Option.bind (Zaq (Za s.v) key val) fun r => bif (!r.1) then some ((4 : Int), (Za r.2)) else Option.bind (Zbb (Za r.2) key) fun q =>
      bif (Zm q ((gl r.2 1).length)) then some (0, (V.agg [(V.int .i64 (gi r.2 0)), (V.inl Zg ((gl r.2 1).set (0 + q.toNat) (V.agg [(V.inl Zc (gl (rd (gl r.2 1) (0 + q.toNat)) 0)), (V.inl Zc (gl (rd (gl r.2 1) (0 + q.toNat)) 1)), (V.int .i64 (gi (rd (gl r.2 1) (0 + q.toNat)) 2)), (V.int .i64 n)]))), (V.inl Zf (gl r.2 2)), (V.int .i64 (gi r.2 3)), (V.inl Zd (gl r.2 4)), (V.inl Ze (gl r.2 5))])) else none) =
    (bif (s.put key val).1 then some (0, ((s.put key val).2.hold key n).v) else some (4, (s.put key val).2.v)) := by
  refine Eq.trans (congrArg (fun o => Option.bind o _) (show _ = _ from ZjJ (by omega) ht hk hv)) ?_
  have hl := put_len (s := s) (key := key) (val := val)
  have hfd := Zp1 (s := s) (key := key) (val := val)
  revert hl hfd
  generalize s.put key val = q
  obtain ⟨b, q⟩ := q
  intro hl hfd
  cases b with
  | false => rfl
  | true =>
    obtain ⟨j, hf, hj⟩ := hfd rfl
    have hj : j < q.rows.length := hj
    have er : Zbb (Za (Za q.v)) key = some (fK q.rows key) := ZeI (s := q.v) (show q.rows.length ≤ _ by have := hl.1; dsimp only at this; omega) key
    simp only [Option.bind_some, Bool.not_true, cond_false, cond_true]
    refine Eq.trans (congrArg (fun o => Option.bind o _) (show _ = some (fK q.rows key) from er)) ?_
    rw [ZdN hf]
    simp only [Option.bind_some, Int.toNat_natCast, Nat.zero_add, show gl q.v 1 = q.rows from rfl, Zo hj, cond_true]
    unfold SD.hold
    rw [show Zr (fun i => neq (gl (rd q.rows i) 0) key) 0 q.rows.length = some j from hf]
    rfl
theorem Zn8 {s : SD} {o : V} (hs : s.sess.length ≤ 1000) (hb : s.rows.length + s.tombs.length ≤ 9) (hk : (gl o 1).length ≤ 1000) (hv : (gl o 2).length ≤ 1000) (hk0 : 0 < (gl o 1).length) :
    Zbj s.v o = some ((s.do' (gi o 0) (gl o 1) (gl o 2) (gi o 3)).1, (s.do' (gi o 0) (gl o 1) (gl o 2) (gi o 3)).2.v) := by
  have er : Zbb (Za s.v) (gl o 1) = some (fK s.rows (gl o 1)) := ZeI (s := s.v) (show s.rows.length ≤ _ by omega) _
  have es : ZbF (Za s.v) (gi o 3) = some (fI s.sess (gi o 3)) := ZfD (s := s.v) (show s.sess.length ≤ _ by omega) _
  have pp := putP (s := s) (key := gl o 1) (val := gl o 2) (by omega) (by omega) hk hv
  have tp := takeP (s := s) (key := gl o 1) (val := gl o 2) (n := gi o 3) (by omega) (by omega) hk hv
  unfold Zbj SD.do' SD.look SD.sessAt
  rw [dT hk0, dT (show (0 : Int) < (((gl o 1).length : Nat) : Int) by omega)]
  simp only [cond_true, er, es, Option.bind_some, show gl s.v 1 = s.rows from rfl, show gl s.v 2 = s.tombs from rfl, show gl s.v 4 = s.sess from rfl, show gl s.v 5 = s.lasts from rfl, show gi s.v 0 = s.idx from rfl, show gi s.v 3 = s.lost from rfl]
  generalize gl o 1 = key at *
  generalize gl o 2 = val at *
  generalize gi o 3 = n at *
  generalize gi o 0 = k
  by_cases h1 : k = 1
  · rw [dT h1]; exact pp
  rw [dF h1]
  by_cases h2 : k = 2
  · rw [dT h2]
    simp only [cond_false, cond_true]
    cases hf : Zr (fun i => neq (gl (rd s.rows i) 0) key) 0 s.rows.length with
    | none =>
      rw [Ze1 hf, show decide ((0 : Int) ≤ -1) = false from rfl]
      simp only [cond_false]
      by_cases hn : (0 : Int) = n
      · rw [dT hn]; exact pp
      · rw [dF hn]; rfl
    | some j =>
      have hj := ZbL hf
      rw [ZdN hf, dT (show (0 : Int) ≤ (j : Int) by omega), Zo hj]
      simp only [cond_true, Nat.zero_add, Int.toNat_natCast]
      by_cases hn : gi (rd s.rows j) 2 = n
      · rw [dT hn]; exact pp
      · rw [dF hn]; rfl
  rw [dF h2]
  by_cases h3 : k = 3
  · rw [dT h3]
    simp only [cond_false, cond_true]
    cases hf : Zr (fun i => neq (gl (rd s.rows i) 0) key) 0 s.rows.length with
    | none => rw [Ze1 hf]; rfl
    | some j =>
      have hj := ZbL hf
      rw [ZdN hf, dF (show ¬ (j : Int) < 0 by omega)]
      simp only [cond_false]
      refine Eq.trans (congrArg (fun o => Option.bind o _) (show _ = _ from ZiJ hj (by omega) (by omega))) ?_
      rfl
  rw [dF h3]
  by_cases h4 : k = 4
  · rw [dT h4]
    simp only [cond_false, cond_true]
    by_cases h8 : 8 ≤ s.sess.length
    · rw [dT h8, dT (show (8 : Int) ≤ ((s.sess.length : Nat) : Int) by omega)]; rfl
    · rw [dF h8, dF (show ¬ (8 : Int) ≤ ((s.sess.length : Nat) : Int) by omega), Zaf (by omega) (by omega), Zaf (by omega) (by omega)]; rfl
  rw [dF h4]
  by_cases h5 : k = 5
  · rw [dT h5]
    simp only [cond_false, cond_true]
    cases hf : Zr (fun i => decide (gi (rd s.sess i) 0 = n)) 0 s.sess.length with
    | none => rw [Zgl hf]; rfl
    | some j =>
      have hj := (ZX hf).2.1
      rw [Zgk hf, dF (show ¬ (j : Int) < 0 by omega)]
      simp only [cond_false]
      refine Eq.trans (congrArg (fun o => Option.bind o _) (show _ = _ from ZiK (by omega) hs hb)) ?_
      rfl
  rw [dF h5]
  by_cases h6 : k = 6
  · rw [dT h6]
    simp only [cond_false, cond_true]
    cases hf : Zr (fun i => decide (gi (rd s.sess i) 0 = n)) 0 s.sess.length with
    | none => rw [Zgl hf]; rfl
    | some j =>
      rw [Zgk hf, dF (show ¬ (j : Int) < 0 by omega)]
      simp only [cond_false]
      have fin : (bif (s.put key val).1 then some ((0 : Int), ((s.put key val).2.hold key n).v) else some (4, (s.put key val).2.v)) = some ((bif (s.put key val).1 then ((0 : Int), (s.put key val).2.hold key n) else (4, (s.put key val).2)).1, (bif (s.put key val).1 then ((0 : Int), (s.put key val).2.hold key n) else (4, (s.put key val).2)).2.v) := by
        cases (s.put key val).1 <;> rfl
      cases hr : Zr (fun i => neq (gl (rd s.rows i) 0) key) 0 s.rows.length with
      | none =>
        rw [Ze1 hr, show decide ((0 : Int) ≤ -1) = false from rfl]
        exact tp.trans fin
      | some i =>
        have hi := ZbL hr
        rw [ZdN hr, dT (show (0 : Int) ≤ (i : Int) by omega), Zo hi]
        simp only [cond_true, Nat.zero_add, Int.toNat_natCast]
        simp only [Nat.zero_add] at tp
        by_cases hz : gi (rd s.rows i) 3 = 0
        · rw [dT hz]; exact tp.trans fin
        rw [dF hz]
        by_cases hn : gi (rd s.rows i) 3 = n
        · rw [dT hn]; exact tp.trans fin
        · rw [dF hn]; rfl
  rw [dF h6]
  by_cases h7 : k = 7
  · rw [dT h7]
    simp only [cond_false, cond_true]
    cases hf : Zr (fun i => neq (gl (rd s.rows i) 0) key) 0 s.rows.length with
    | none => rw [Ze1 hf]; rfl
    | some j =>
      have hj := ZbL hf
      rw [ZdN hf, dF (show ¬ (j : Int) < 0 by omega), Zo hj]
      simp only [cond_true, cond_false, Nat.zero_add, Int.toNat_natCast, List.length_set, Zo hj, Zbe hj, List.set_set]
      by_cases hn : gi (rd s.rows j) 3 = n
      · rw [dT hn]; rfl
      · rw [dF hn]; rfl
  rw [dF h7]
  rfl
theorem Zph {s : SD} {o : V} (hs : s.sess.length ≤ 1000) (hb : s.rows.length + s.tombs.length ≤ 9) (hk : (gl o 1).length ≤ 1000) (hv : (gl o 2).length ≤ 1000) (hk0 : ¬ 0 < (gl o 1).length) :
    Zbj s.v o = some ((s.do' (gi o 0) (gl o 1) (gl o 2) (gi o 3)).1, (s.do' (gi o 0) (gl o 1) (gl o 2) (gi o 3)).2.v) := by
  have es : ZbF (Za s.v) (gi o 3) = some (fI s.sess (gi o 3)) := ZfD (s := s.v) (show s.sess.length ≤ _ by omega) _
  have pp := putP (s := s) (key := gl o 1) (val := gl o 2) (by omega) (by omega) hk hv
  have tp := takeP (s := s) (key := gl o 1) (val := gl o 2) (n := gi o 3) (by omega) (by omega) hk hv
  unfold Zbj SD.do' SD.look SD.sessAt
  rw [dF hk0, dF (show ¬ (0 : Int) < (((gl o 1).length : Nat) : Int) by omega)]
  simp only [cond_false, es, Option.bind_some, show gl s.v 1 = s.rows from rfl, show gl s.v 2 = s.tombs from rfl, show gl s.v 4 = s.sess from rfl, show gl s.v 5 = s.lasts from rfl, show gi s.v 0 = s.idx from rfl, show gi s.v 3 = s.lost from rfl]
  generalize gl o 1 = key at *
  generalize gl o 2 = val at *
  generalize gi o 3 = n at *
  generalize gi o 0 = k
  by_cases h1 : k = 1
  · rw [dT h1]; exact pp
  rw [dF h1]
  by_cases h2 : k = 2
  · rw [dT h2]
    simp only [cond_false, cond_true]
    by_cases hn : (0 : Int) = n
    · rw [dT hn]; exact pp
    · rw [dF hn]; rfl
  rw [dF h2]
  by_cases h3 : k = 3
  · rw [dT h3]; rfl
  rw [dF h3]
  by_cases h4 : k = 4
  · rw [dT h4]
    simp only [cond_false, cond_true]
    by_cases h8 : 8 ≤ s.sess.length
    · rw [dT h8, dT (show (8 : Int) ≤ ((s.sess.length : Nat) : Int) by omega)]; rfl
    · rw [dF h8, dF (show ¬ (8 : Int) ≤ ((s.sess.length : Nat) : Int) by omega), Zaf (by omega) (by omega), Zaf (by omega) (by omega)]; rfl
  rw [dF h4]
  by_cases h5 : k = 5
  · rw [dT h5]
    simp only [cond_false, cond_true]
    cases hf : Zr (fun i => decide (gi (rd s.sess i) 0 = n)) 0 s.sess.length with
    | none => rw [Zgl hf]; rfl
    | some j =>
      have hj := (ZX hf).2.1
      rw [Zgk hf, dF (show ¬ (j : Int) < 0 by omega)]
      simp only [cond_false]
      refine Eq.trans (congrArg (fun o => Option.bind o _) (show _ = _ from ZiK (by omega) hs hb)) ?_
      rfl
  rw [dF h5]
  by_cases h6 : k = 6
  · rw [dT h6]
    simp only [cond_false, cond_true]
    cases hf : Zr (fun i => decide (gi (rd s.sess i) 0 = n)) 0 s.sess.length with
    | none => rw [Zgl hf]; rfl
    | some j =>
      rw [Zgk hf, dF (show ¬ (j : Int) < 0 by omega)]
      simp only [cond_false]
      refine tp.trans ?_
      cases (s.put key val).1 <;> rfl
  rw [dF h6]
  by_cases h7 : k = 7
  · rw [dT h7]; rfl
  rw [dF h7]
  rfl
theorem Zpi {s : SD} {o : V} (hs : s.sess.length ≤ 1000) (hb : s.rows.length + s.tombs.length ≤ 9) (hk : (gl o 1).length ≤ 1000) (hv : (gl o 2).length ≤ 1000) :
    Zbj s.v o = some ((s.do' (gi o 0) (gl o 1) (gl o 2) (gi o 3)).1, (s.do' (gi o 0) (gl o 1) (gl o 2) (gi o 3)).2.v) := by
  by_cases h : 0 < (gl o 1).length
  · exact Zn8 hs hb hk hv h
  · exact Zph hs hb hk hv h
end Go.Eng.R
open Go Go.Eng
namespace Go.Eng.R
set_option maxRecDepth 100000
theorem Zp2 (s : SD) (key val : List V) : (s.put key val).2.lasts = s.lasts := by
  unfold SD.put
  cases Zr (fun i => neq (gl (rd s.rows i) 0) key) 0 s.rows.length with
  | some j => rfl
  | none => cases decide (20 ≤ s.rows.length) <;> rfl
theorem Zle (s : SD) (i : Nat) : (s.bury i).lasts = s.lasts := by
  unfold SD.bury; cases decide (10 < s.tombs.length + 1) <;> rfl
theorem ZfS (id : Int) (del : Bool) : ∀ (n k : Nat) (s : SD), (SD.shutL id del n k s).lasts = s.lasts
  | 0, _, _ => rfl
  | n + 1, k, s => by
    rw [SD.shutL]
    cases decide (k < s.rows.length) with
    | false => rfl
    | true =>
      cases decide (gi (rd s.rows k) 3 = id) with
      | false => exact ZfS id del n (k + 1) s
      | true =>
        cases del with
        | true => exact (ZfS id true n k (s.bury k)).trans (Zle s k)
        | false => exact ZfS id false n (k + 1) _
theorem Zpj (s : SD) (key : List V) (n : Int) : (s.hold key n).lasts = s.lasts := by
  unfold SD.hold; cases Zr (fun i => neq (gl (rd s.rows i) 0) key) 0 s.rows.length <;> rfl
theorem ZjX (s : SD) (k : Int) (key val : List V) (n : Int) : (s.do' k key val n).2.lasts = s.lasts := by
  have hp := Zp2 s key val
  unfold SD.do'
  cases decide (k = 1) with
  | true => exact hp
  | false =>
  cases decide (k = 2) with
  | true =>
    show (bif _ then s.puts key val else (3, s)).2.lasts = _
    cases decide ((match s.look key with | some j => gi (rd s.rows j) 2 | none => 0) = n) with
    | true => exact hp
    | false => rfl
  | false =>
  cases decide (k = 3) with
  | true =>
    show (match s.look key with | some j => ((0 : Int), s.bury j) | none => (1, s)).2.lasts = _
    cases s.look key with
    | some j => exact Zle s j
    | none => rfl
  | false =>
  cases decide (k = 4) with
  | true =>
    show (bif decide (8 ≤ s.sess.length) then ((4 : Int), s) else (0, { s with sess := s.sess ++ [Zjc s.idx (decide (n = 1))] })).2.lasts = _
    cases decide (8 ≤ s.sess.length) <;> rfl
  | false =>
  cases decide (k = 5) with
  | true =>
    show (match s.sessAt n with | some i => ((0 : Int), s.shut i) | none => (1, s)).2.lasts = _
    cases s.sessAt n with
    | some i => exact ZfS _ _ _ _ _
    | none => rfl
  | false =>
  cases decide (k = 6) with
  | true =>
    show (match s.sessAt n with
      | none => ((1 : Int), s)
      | some _ => bif (match s.look key with | some j => !decide (gi (rd s.rows j) 3 = 0) && !decide (gi (rd s.rows j) 3 = n) | none => false) then (2, s)
        else bif (s.put key val).1 then (0, (s.put key val).2.hold key n) else (4, (s.put key val).2)).2.lasts = _
    cases s.sessAt n with
    | none => rfl
    | some i =>
      cases (match s.look key with | some j => !decide (gi (rd s.rows j) 3 = 0) && !decide (gi (rd s.rows j) 3 = n) | none => false) with
      | true => rfl
      | false =>
        show (bif (s.put key val).1 then ((0 : Int), (s.put key val).2.hold key n) else (4, (s.put key val).2)).2.lasts = _
        cases (s.put key val).1 with
        | true => exact (Zpj _ _ _).trans hp
        | false => exact hp
  | false =>
  cases decide (k = 7) with
  | true =>
    show (match s.look key with
      | some j => bif decide (gi (rd s.rows j) 3 = n) then ((0 : Int), { s with rows := s.rows.set j (ZU (gl (rd s.rows j) 0) (gl (rd s.rows j) 1) s.idx 0) }) else (1, s)
      | none => (1, s)).2.lasts = _
    cases s.look key with
    | none => rfl
    | some j =>
      dsimp only
      by_cases hn : gi (rd s.rows j) 3 = n
      · rw [dT hn]; rfl
      · rw [dF hn]; rfl
  | false => rfl
def ZbA (l : List V) (c : Int) : Nat := match Zr (fun i => !decide (gi (rd l i) 0 < c)) 0 l.length with | some j => j | none => l.length
theorem Zlf (l : List V) (c : Int) : ZbA l c ≤ l.length := by
  unfold ZbA
  cases h : Zr (fun i => !decide (gi (rd l i) 0 < c)) 0 l.length with
  | none => exact Nat.le_refl _
  | some j => have := ZX h; show j ≤ _; omega
def SD.up (s : SD) : SD := { s with idx := s.idx + 1 }
def SD.apply (s : SD) (c : V) : (Int × Int) × SD :=
  bif decide (gi c 0 < 0) then ((0, s.idx + 1), s.up)
  else bif decide (ZbA s.lasts (gi c 0) < s.lasts.length) && decide (gi (rd s.lasts (ZbA s.lasts (gi c 0))) 0 = gi c 0) then
    bif decide (gi (rd s.lasts (ZbA s.lasts (gi c 0))) 1 = gi c 1) then ((gi (rd s.lasts (ZbA s.lasts (gi c 0))) 2, gi (rd s.lasts (ZbA s.lasts (gi c 0))) 3), s.up)
    else bif decide (gi c 1 < gi (rd s.lasts (ZbA s.lasts (gi c 0))) 1) then ((5, s.idx + 1), s.up)
    else (((s.up.do' (gi c 2) (gl c 3) (gl c 4) (gi c 5)).1, s.idx + 1), { (s.up.do' (gi c 2) (gl c 3) (gl c 4) (gi c 5)).2 with lasts := s.lasts.set (ZbA s.lasts (gi c 0)) (Zgg (gi (rd s.lasts (ZbA s.lasts (gi c 0))) 0) (gi c 1) (s.up.do' (gi c 2) (gl c 3) (gl c 4) (gi c 5)).1 (s.idx + 1)) })
  else (((s.up.do' (gi c 2) (gl c 3) (gl c 4) (gi c 5)).1, s.idx + 1), { (s.up.do' (gi c 2) (gl c 3) (gl c 4) (gi c 5)).2 with lasts := Z2 s.lasts (ZbA s.lasts (gi c 0)) (Zgg (gi c 0) (gi c 1) (s.up.do' (gi c 2) (gl c 3) (gl c 4) (gi c 5)).1 (s.idx + 1)) })
theorem Zmr {s : SD} {c b2 b3 : V} {r4 r5 r6 r7 : List V} (hr : r7.length ≤ 1000) : Zaj (r7.length + 1) 0 (s.b 4 5 6 7) (Zn c) (ZA b2) (ZA b3) r4 r5 r6 r7 = some (((ZbA r7 (gi c 0) : Nat) : Int), s.b 4 5 6 7, Zn c, ZA b2, ZA b3, r4, r5, r6, r7) := by
  unfold ZbA
  rw [show (0 : Int) = ((0 : Nat) : Int) from rfl, Zdk (F := fun m i => Zaj m i (s.b 4 5 6 7) (Zn c) (ZA b2) (ZA b3) r4 r5 r6 r7) (n := r7.length) (q := fun i => !decide (gi (rd r7 i) 0 < gi c 0)) (out := fun j => some (j, s.b 4 5 6 7, Zn c, ZA b2, ZA b3, r4, r5, r6, r7)) (no := some (((r7.length : Nat) : Int), s.b 4 5 6 7, Zn c, ZA b2, ZA b3, r4, r5, r6, r7)) ?_ ?_ (r7.length + 1) 0 (by omega) (by omega), Nat.sub_zero]
  · cases Zr (fun i => !decide (gi (rd r7 i) 0 < gi c 0)) 0 r7.length <;> rfl
  · intro m i hi
    show Zaj (m + 1) (i : Int) (s.b 4 5 6 7) (Zn c) (ZA b2) (ZA b3) r4 r5 r6 r7 = _
    rw [Zaj]
    simp only [Zag hi, Zo hi, Int.toNat_natCast, Nat.zero_add, cond_true, Z8 hi (show r7.length ≤ 9223372036854775807 by omega), show gi (Zn c) 0 = gi c 0 from rfl]
    cases decide (gi (rd r7 i) 0 < gi c 0) <;> rfl
  · intro m
    show Zaj (m + 1) ((r7.length : Nat) : Int) (s.b 4 5 6 7) (Zn c) (ZA b2) (ZA b3) r4 r5 r6 r7 = _
    rw [Zaj, Z3]; rfl
theorem Zms {s : SD} {c : V} (hi0 : -10000000 ≤ s.idx) (hi1 : s.idx ≤ 10000000) (hs : s.sess.length ≤ 1000) (hl : s.lasts.length ≤ 1000) (hb : s.rows.length + s.tombs.length ≤ 9) (hk : (gl c 3).length ≤ 1000) (hv : (gl c 4).length ≤ 1000) :
    ZJ s.v c = some (V.agg [(V.int .i64 (s.apply c).1.1), (V.int .i64 (s.apply c).1.2)], (s.apply c).2.v) := by
  have hdo := Zpi (s := s.up) (o := V.agg [(V.int .i64 (gi c 2)), (V.inl Zc (gl c 3)), (V.inl Zc (gl c 4)), (V.int .i64 (gi c 5))]) hs hb hk hv
  have hdl := ZjX s.up (gi c 2) (gl c 3) (gl c 4) (gi c 5)
  have hcl := Zlf s.lasts (gi c 0)
  unfold ZJ SD.apply
  simp only [show gl s.v 1 = s.rows from rfl, show gl s.v 2 = s.tombs from rfl, show gl s.v 4 = s.sess from rfl, show gl s.v 5 = s.lasts from rfl, show gi s.v 0 = s.idx from rfl, show gi s.v 3 = s.lost from rfl]
  rw [Zap (n := s.idx + 1) (by omega) (by omega)]
  by_cases h0 : gi c 0 < 0
  · rw [dT h0]; rfl
  rw [dF h0]
  simp only [cond_false]
  rw [Zbd]
  refine Eq.trans (congrArg (fun o => Option.bind o _) (show _ = _ from Zmr (s := s.up) (c := c) (b2 := V.agg [(V.int .i64 0), (V.int .i64 0)]) (b3 := V.agg [(V.int .i64 0), (V.int .i64 (s.idx + 1))]) hl)) ?_
  simp only [Option.bind_some]
  generalize ZbA s.lasts (gi c 0) = k at *
  have hdo' : Zbj (V.agg [(V.int .i64 (gi (s.up.b 4 5 6 7) 0)), (V.inl Zg s.rows), (V.inl Zf s.tombs), (V.int .i64 (gi (s.up.b 4 5 6 7) 3)), (V.inl Zd s.sess), (V.inl Ze s.lasts)]) (V.agg [(V.int .i64 (gi (Zn c) 2)), (V.inl Zc (gl (Zn c) 3)), (V.inl Zc (gl (Zn c) 4)), (V.int .i64 (gi (Zn c) 5))]) = some ((s.up.do' (gi c 2) (gl c 3) (gl c 4) (gi c 5)).1, (s.up.do' (gi c 2) (gl c 3) (gl c 4) (gi c 5)).2.v) := hdo
  have new : (Option.bind (Zbj (V.agg [(V.int .i64 (gi (s.up.b 4 5 6 7) 0)), (V.inl Zg s.rows), (V.inl Zf s.tombs), (V.int .i64 (gi (s.up.b 4 5 6 7) 3)), (V.inl Zd s.sess), (V.inl Ze s.lasts)]) (V.agg [(V.int .i64 (gi (Zn c) 2)), (V.inl Zc (gl (Zn c) 3)), (V.inl Zc (gl (Zn c) 4)), (V.int .i64 (gi (Zn c) 5))])) fun r =>
      bif ((decide ((0 : Int) ≤ (k : Int))) && (decide ((k : Int) ≤ (((gl r.2 5).length : Nat) : Int)))) then
        bif ((Zw (0 + (((gl r.2 5).take (k : Int).toNat).length)) 32) && true) then
          bif ((Zw ((((gl r.2 5).take (k : Int).toNat).length) + 1) 32) && true) then
            bif ((decide ((0 : Int) ≤ (k : Int))) && (decide ((k : Int) ≤ (((gl r.2 5).length : Nat) : Int)))) then
              bif ((Zw (((((gl r.2 5).take (k : Int).toNat) ++ [(V.agg [(V.int .i64 (gi (Zn c) 0)), (V.int .i64 (gi (Zn c) 1)), (V.int .i64 r.1), (V.int .i64 (gi (ZA (V.agg [(V.int .i64 0), (V.int .i64 (s.idx + 1))])) 1))])]).length) + (((gl r.2 5).drop (0 + (k : Int).toNat)).length)) 32) && true) then
                some ((V.agg [(V.int .i64 r.1), (V.int .i64 (gi (ZA (V.agg [(V.int .i64 0), (V.int .i64 (s.idx + 1))])) 1))]), (V.agg [(V.int .i64 (gi r.2 0)), (V.inl Zg (gl r.2 1)), (V.inl Zf (gl r.2 2)), (V.int .i64 (gi r.2 3)), (V.inl Zd (gl r.2 4)), (V.inl Ze ((((gl r.2 5).take (k : Int).toNat) ++ [(V.agg [(V.int .i64 (gi (Zn c) 0)), (V.int .i64 (gi (Zn c) 1)), (V.int .i64 r.1), (V.int .i64 (gi (ZA (V.agg [(V.int .i64 0), (V.int .i64 (s.idx + 1))])) 1))])]) ++ ((gl r.2 5).drop (0 + (k : Int).toNat))))]))
              else none
            else none
          else none
        else none
      else none) = some (V.agg [(V.int .i64 (s.up.do' (gi c 2) (gl c 3) (gl c 4) (gi c 5)).1), (V.int .i64 (s.idx + 1))], ({ (s.up.do' (gi c 2) (gl c 3) (gl c 4) (gi c 5)).2 with lasts := Z2 s.lasts k (Zgg (gi c 0) (gi c 1) (s.up.do' (gi c 2) (gl c 3) (gl c 4) (gi c 5)).1 (s.idx + 1)) } : SD).v) := by
    rw [hdo']
    revert hdl
    generalize s.up.do' (gi c 2) (gl c 3) (gl c 4) (gi c 5) = q
    obtain ⟨co, q⟩ := q
    intro hdl
    have hdl : q.lasts = s.lasts := hdl
    simp only [Option.bind_some, show gl q.v 5 = q.lasts from rfl, hdl, Int.toNat_natCast, Nat.zero_add, List.length_append, List.length_take, List.length_drop, List.length_singleton]
    rw [leT hcl, Zaf (by omega) (by omega), Zaf (by omega) (by omega), Zaf (by omega) (by omega)]
    rfl
  by_cases hk1 : k < s.lasts.length
  case neg =>
    rw [dF hk1, dF (show ¬ (k : Int) < ((s.lasts.length : Nat) : Int) by omega)]
    exact new
  rw [dT hk1, dT (show (k : Int) < ((s.lasts.length : Nat) : Int) by omega), Zo hk1]
  simp only [cond_true, Bool.true_and, Nat.zero_add, Int.toNat_natCast]
  by_cases hk2 : gi (rd s.lasts k) 0 = gi c 0
  case neg =>
    rw [dF hk2, show decide (gi (rd s.lasts k) 0 = gi (Zn c) 0) = false from dF hk2]
    simp only [Nat.zero_add, Int.toNat_natCast] at new
    exact new
  rw [dT hk2, show decide (gi (rd s.lasts k) 0 = gi (Zn c) 0) = true from dT hk2]
  simp only [cond_true]
  by_cases hk3 : gi (rd s.lasts k) 1 = gi c 1
  · rw [dT hk3, show decide (gi (rd s.lasts k) 1 = gi (Zn c) 1) = true from dT hk3]; rfl
  rw [dF hk3, show decide (gi (rd s.lasts k) 1 = gi (Zn c) 1) = false from dF hk3]
  simp only [cond_false]
  by_cases hk4 : gi c 1 < gi (rd s.lasts k) 1
  · rw [dT hk4, show decide (gi (Zn c) 1 < gi (rd s.lasts k) 1) = true from dT hk4]; rfl
  rw [dF hk4, show decide (gi (Zn c) 1 < gi (rd s.lasts k) 1) = false from dF hk4]
  simp only [cond_false]
  rw [hdo']
  revert hdl
  generalize s.up.do' (gi c 2) (gl c 3) (gl c 4) (gi c 5) = q
  obtain ⟨co, q⟩ := q
  intro hdl
  have hdl : q.lasts = s.lasts := hdl
  simp only [Option.bind_some, show gl q.v 5 = q.lasts from rfl, hdl, List.length_set, Zo hk1, Zbe hk1, List.set_set, cond_true]
  rfl
end Go.Eng.R
open Go Go.Eng
namespace Go.Eng.R
set_option maxRecDepth 100000
def K5 : List (List V) := [[(V.int .u8 97)], [(V.int .u8 98)], [(V.int .u8 99)], [(V.int .u8 97), (V.int .u8 47), (V.int .u8 98)], [(V.int .u8 100)]]
theorem Zjf {k : List V} (h : k ∈ K5) : BS k := by
  simp only [K5, List.mem_cons, List.not_mem_nil, or_false] at h
  rcases h with rfl | rfl | rfl | rfl | rfl <;> exact ZeS rfl
theorem K5_neq {a b : List V} (ha : a ∈ K5) (hb : b ∈ K5) (h : neq a b = true) : a = b := by
  simp only [K5, List.mem_cons, List.not_mem_nil, or_false] at ha hb
  rcases ha with rfl | rfl | rfl | rfl | rfl <;> rcases hb with rfl | rfl | rfl | rfl | rfl <;> first | rfl | (exact absurd h (by decide))
theorem ZlZ {c : V} (h : ZL c) : Ok2 (fun x c => ZL c ∧ x ∈ K5) (ZaS (Zb c)) := by
  obtain ⟨x, c', e, h', x0, x1⟩ := ZhY h (n := 5) (by decide)
  unfold ZaS
  rw [show Zb (Zb c) = Zb c from rfl, e]
  simp only [Option.bind_some]
  rw [show Zm x 5 = true from by simp [Zm]; omega]
  obtain ⟨j, rfl⟩ := Int.eq_ofNat_of_zero_le x0
  have hj : j = 0 ∨ j = 1 ∨ j = 2 ∨ j = 3 ∨ j = 4 := by omega
  rcases hj with rfl | rfl | rfl | rfl | rfl
  · exact ⟨_, _, rfl, h', List.mem_cons_self ..⟩
  · exact ⟨_, _, rfl, h', List.mem_cons_of_mem _ (List.mem_cons_self ..)⟩
  · exact ⟨_, _, rfl, h', List.mem_cons_of_mem _ (List.mem_cons_of_mem _ (List.mem_cons_self ..))⟩
  · exact ⟨_, _, rfl, h', List.mem_cons_of_mem _ (List.mem_cons_of_mem _ (List.mem_cons_of_mem _ (List.mem_cons_self ..)))⟩
  · exact ⟨_, _, rfl, h', List.mem_cons_of_mem _ (List.mem_cons_of_mem _ (List.mem_cons_of_mem _ (List.mem_cons_of_mem _ (List.mem_cons_self ..))))⟩
def opN (k : Int) : Prop := k ≠ 1 ∧ k ≠ 2 ∧ k ≠ 6
def D_Op (x : V) : Prop := (gl x 1 ∈ K5 ∨ (gl x 1 = [] ∧ opN (gi x 0))) ∧ BS (gl x 2) ∧ I64 (gi x 0) ∧ I64 (gi x 3)
set_option maxHeartbeats 2000000 in
theorem op_K {c : V} (h : ZL c) (i : Int) : Ok2 (fun x c => ZL c ∧ D_Op x) (ZfY (Zb c) i) := by
  unfold ZfY
  refine .of ?_
  obtain ⟨j, c', e, h1, hj⟩ := ZoF h (l := [(V.int .i64 1), (V.int .i64 1), (V.int .i64 1), (V.int .i64 2), (V.int .i64 3), (V.int .i64 3), (V.int .i64 4), (V.int .i64 5), (V.int .i64 6), (V.int .i64 6), (V.int .i64 7), (V.int .i64 0)]) (by decide)
  have hv : gi (rd [(V.int .i64 1), (V.int .i64 1), (V.int .i64 1), (V.int .i64 2), (V.int .i64 3), (V.int .i64 3), (V.int .i64 4), (V.int .i64 5), (V.int .i64 6), (V.int .i64 6), (V.int .i64 7), (V.int .i64 0)] j) 0 ∈ [(0 : Int), 1, 2, 3, 4, 5, 6, 7] := by
    have hj' : j ∈ List.range 12 := List.mem_range.2 hj
    revert j
    intro j _ _ hj
    have key : ∀ j ∈ List.range 12, gi (rd [(V.int .i64 1), (V.int .i64 1), (V.int .i64 1), (V.int .i64 2), (V.int .i64 3), (V.int .i64 3), (V.int .i64 4), (V.int .i64 5), (V.int .i64 6), (V.int .i64 6), (V.int .i64 7), (V.int .i64 0)] j) 0 ∈ [(0 : Int), 1, 2, 3, 4, 5, 6, 7] := by decide
    exact key j hj
  rw [nn_cur, e]
  refine Ok.bind2 (Q := fun a b => a = gi (rd [(V.int .i64 1), (V.int .i64 1), (V.int .i64 1), (V.int .i64 2), (V.int .i64 3), (V.int .i64 3), (V.int .i64 4), (V.int .i64 5), (V.int .i64 6), (V.int .i64 6), (V.int .i64 7), (V.int .i64 0)] j) 0 ∧ b = c') ⟨_, _, rfl, rfl, rfl⟩ ?_
  rintro a b ⟨ha, rfl⟩
  rw [← ha] at hv
  clear ha e
  simp only [List.mem_cons, List.not_mem_nil, or_false] at hv
  rcases hv with rfl | rfl | rfl | rfl | rfl | rfl | rfl | rfl
  all_goals ((repeat' (((with_reducible refine (id ?_ : Ok _ _)); first | (with_reducible refine Ok.chk (by (first | (refine ZdA ?_ ?_ <;> (try simp only [List.length_set, List.length_append, List.length_cons, List.length_nil, List.length_replicate, Nat.zero_add]) <;> omega) | (refine room_of ?_ ?_ <;> (try simp only [List.length_set, List.length_append, List.length_cons, List.length_nil, List.length_replicate, Nat.zero_add]) <;> omega) | assumption | (simp; done) | (simp; omega))) ?_) | ((with_reducible refine Ok.iteT ?_ ?_); (next => first | exact decide_eq_true (by with_reducible rfl) | (refine congrArg not (decide_eq_false ?_); intro h; revert h; dsimp only; decide))) | ((with_reducible refine Ok.iteF ?_ ?_); (next => first | (refine decide_eq_false ?_; intro h; revert h; dsimp only; decide) | exact congrArg not (decide_eq_true (by with_reducible rfl)))) | (with_reducible refine Ok.ite (fun _ => ?_) (fun _ => ?_) <;> (rename_i h; try simp only [decide_eq_true_eq, decide_eq_false_iff_not, Bool.not_eq_true', Bool.not_eq_false', Int.not_lt, Int.not_le] at h)) | (first | (((with_reducible refine Ok.bind2 (ZlZ (by assumption)) ?_); rintro _ _ ⟨_, _⟩)) | (((with_reducible refine Ok.bind2 (ZlY (by assumption)) ?_); rintro _ _ ⟨_, _⟩)) | (((with_reducible refine Ok.bind2 (ZpZ (by assumption)) ?_); rintro _ _ ⟨_, _⟩)) | (((with_reducible refine Ok.bind2 (Zf0 (by assumption) ?_ ?_) ?_); (next => exact Nat.succ_pos _); (next => repeat' (first | trivial | ((repeat' (first | dsimp only [ZkW, ZkY, ZkX, ZkZ, gi_v0] | with_reducible assumption | with_reducible exact wrI _ | (unfold I64; constructor <;> omega) | omega | (simp only [List.length_set, List.length_append, List.length_cons, List.length_nil, List.length_take, List.length_drop]; omega) | with_reducible refine LW.set' ?_ _ ?_ | with_reducible refine LW.snoc ?_ ?_ ?_ | with_reducible refine LW.takeL ?_ _ | with_reducible refine LW.dropL ?_ _ | with_reducible refine W_int.mk ?_ | assumption)); done) | refine And.intro ?_ ?_)); rintro _ _ ⟨_, _⟩)) | (((with_reducible refine Ok.bind2 (ZbM (by assumption) _) ?_); rintro _ _ ⟨_, _, _, _⟩))) | with_reducible refine Ok.ret ?_))))
  all_goals (refine ⟨by assumption, ?_, ?_, ?_, ?_⟩ <;> (try dsimp only [ZkW, ZkY, ZkX, ZkZ]) <;> first | exact .inr ⟨rfl, by decide, by decide, by decide⟩ | (refine .inl ?_; assumption) | with_reducible assumption | with_reducible exact wrI _ | with_reducible exact BS.nil | ((unfold I64; constructor <;> omega)) | assumption)
open Classical in
theorem ZiL {α : Type} : ∀ (K l : List α), l.Nodup → (∀ x ∈ l, x ∈ K) → l.length ≤ K.length
  | [], l, _, h => by
    cases l with
    | nil => exact Nat.le_refl _
    | cons a l => have := h a (by simp); cases this
  | k :: K, l, hn, h => by
    by_cases hk : k ∈ l
    · have e := List.length_erase_of_mem hk
      have := ZiL K (l.erase k) (hn.erase k) fun x hx => by
        have h1 := (hn.mem_erase_iff).1 hx
        rcases List.mem_cons.1 (h x h1.2) with h2 | h2
        · exact absurd h2 h1.1
        · exact h2
      simp only [List.length_cons]
      omega
    · have := ZiL K l hn fun x hx => by
        rcases List.mem_cons.1 (h x hx) with h2 | h2
        · subst h2; exact absurd hx hk
        · exact h2
      simp only [List.length_cons]
      omega
theorem Zu {l : List V} {i : Nat} (h : i < l.length) : rd l i ∈ l := by simp [rd, List.getD, h]
theorem Ze2 {l : List V} {i : Nat} (h : i < l.length) : l.Perm (rd l i :: Zae l i) := by
  have e : l = l.take i ++ rd l i :: l.drop (i + 1) := by
    have h1 : rd l i = l[i] := by simp [rd, List.getD, h]
    rw [h1, List.getElem_cons_drop, List.take_append_drop]
  unfold Zae
  exact (List.Perm.of_eq e).trans List.perm_middle
theorem ZfE (l : List V) (i : Nat) (x : V) : (Z2 l i x).Perm (x :: l) := by
  unfold Z2
  rw [List.append_assoc]
  refine List.perm_middle.trans ?_
  show (x :: (l.take i ++ l.drop i)).Perm (x :: l)
  rw [List.take_append_drop]
theorem Zb9 {l : List V} {i : Nat} {x : V} (h : x ∈ Zae l i) : x ∈ l := by
  unfold Zae at h
  rcases List.mem_append.1 h with h | h
  · exact List.mem_of_mem_take h
  · exact List.mem_of_mem_drop h
theorem Zf1 {l : List V} {i : Nat} {x y : V} (h : y ∈ Z2 l i x) : y = x ∨ y ∈ l := by
  have := (ZfE l i x).mem_iff.1 h
  simpa using this
theorem ZiM {f : V → List V} {l : List V} {j : Nat} {x : V} (hj : j < l.length) (h : f x = f (rd l j)) : (l.set j x).map f = l.map f := by
  rw [List.map_set]
  have e : f x = (l.map f)[j]'(by rw [List.length_map]; exact hj) := by
    rw [h, List.getElem_map]
    simp [rd, List.getD, hj]
  rw [e, List.set_getElem_self]
def Zau (x : V) : List V := gl x 0
structure DI (s : SD) (n : Nat) : Prop where
  idx0 : 0 ≤ s.idx
  idx1 : s.idx ≤ (n : Int)
  rows : ∀ r ∈ s.rows, gl r 0 ∈ K5 ∧ BS (gl r 1) ∧ I64 (gi r 2) ∧ I64 (gi r 3)
  tombs : ∀ r ∈ s.tombs, gl r 0 ∈ K5 ∧ I64 (gi r 1)
  lost : I64 s.lost
  sessL : s.sess.length ≤ 8
  sess : ∀ x ∈ s.sess, I64 (gi x 0)
  lastsL : s.lasts.length ≤ n
  lasts : ∀ x ∈ s.lasts, I64 (gi x 0) ∧ I64 (gi x 1) ∧ I64 (gi x 2) ∧ I64 (gi x 3)
  nd : (s.rows.map Zau ++ s.tombs.map Zau).Nodup
theorem Zlg : I64 0 := ⟨by decide, by decide⟩
theorem DI.few {s : SD} {n : Nat} (h : DI s n) : s.rows.length + s.tombs.length ≤ 5 := by
  have := ZiL K5 _ h.nd fun k hk => by
    rcases List.mem_append.1 hk with hk | hk
    · obtain ⟨r, hr, rfl⟩ := List.mem_map.1 hk; exact (h.rows r hr).1
    · obtain ⟨r, hr, rfl⟩ := List.mem_map.1 hk; exact (h.tombs r hr).1
  rw [List.length_append, List.length_map, List.length_map] at this
  exact this
theorem DI.idxI {s : SD} {n : Nat} (h : DI s n) (hn : n ≤ 1000) : I64 s.idx := ⟨by have := h.idx0; omega, by have := h.idx1; omega⟩
theorem DI.bury {s : SD} {n : Nat} (h : DI s n) (hn : n ≤ 1000) {i : Nat} (hi : i < s.rows.length) : DI (s.bury i) n := by
  have hf := h.few
  rw [Znu hi (by omega)]
  refine ⟨h.idx0, h.idx1, fun r hr => h.rows r (Zb9 hr), fun r hr => ?_, h.lost, h.sessL, h.sess, h.lastsL, h.lasts, ?_⟩
  · rcases List.mem_append.1 hr with hr | hr
    · exact h.tombs r hr
    · rw [List.mem_singleton.1 hr]; exact ⟨(h.rows _ (Zu hi)).1, h.idxI hn⟩
  · have hp : (s.rows.map Zau ++ s.tombs.map Zau).Perm ((Zae s.rows i).map Zau ++ (s.tombs ++ [Za5 (gl (rd s.rows i) 0) s.idx]).map Zau) := by
      have h1 : (s.rows.map Zau).Perm (Zau (rd s.rows i) :: (Zae s.rows i).map Zau) := (Ze2 hi).map Zau
      refine (h1.append_right _).trans ?_
      rw [List.map_append, List.map_singleton, show Zau (Za5 (gl (rd s.rows i) 0) s.idx) = Zau (rd s.rows i) from rfl, ← List.append_assoc]
      exact (List.perm_append_singleton _ _).symm
    exact hp.nodup h.nd
theorem DI.put {s : SD} {n : Nat} (h : DI s n) (hn : n ≤ 1000) {key val : List V} (hk : key ∈ K5) (hv : BS val) : DI (s.put key val).2 n := by
  unfold SD.put
  cases hf : Zr (fun i => neq (gl (rd s.rows i) 0) key) 0 s.rows.length with
  | some j =>
    have hj := ZbL hf
    refine ⟨h.idx0, h.idx1, fun r hr => ?_, h.tombs, h.lost, h.sessL, h.sess, h.lastsL, h.lasts, ?_⟩
    · rcases List.mem_or_eq_of_mem_set hr with hr | hr
      · exact h.rows r hr
      · subst hr
        obtain ⟨a, b, c, d⟩ := h.rows _ (Zu hj)
        exact ⟨a, hv, h.idxI hn, d⟩
    · show ((s.rows.set j (ZU (gl (rd s.rows j) 0) val s.idx (gi (rd s.rows j) 3))).map Zau ++ s.tombs.map Zau).Nodup
      rw [ZiM (f := Zau) (x := ZU (gl (rd s.rows j) 0) val s.idx (gi (rd s.rows j) 3)) hj rfl]; exact h.nd
  | none =>
    cases decide (20 ≤ s.rows.length) with
    | true => exact h
    | false =>
      have hno : key ∉ s.rows.map Zau := fun hm => by
        obtain ⟨r, hr, hrk⟩ := List.mem_map.1 hm
        obtain ⟨i, hi, e⟩ := List.getElem_of_mem hr
        have e2 : rd s.rows i = r := by simp [rd, List.getD, hi, e]
        have := firstI_none.1 hf i (Nat.zero_le _) (by omega)
        rw [e2, show gl r 0 = key from hrk, Zea] at this
        cases this
      have hrows : ∀ r ∈ Z2 s.rows (ZaT s.rows key) (ZU key val s.idx 0), gl r 0 ∈ K5 ∧ BS (gl r 1) ∧ I64 (gi r 2) ∧ I64 (gi r 3) := fun r hr => by
        rcases Zf1 hr with rfl | hr
        · exact ⟨hk, hv, h.idxI hn, Zlg⟩
        · exact h.rows r hr
      have hpr : ((Z2 s.rows (ZaT s.rows key) (ZU key val s.idx 0)).map Zau).Perm (key :: s.rows.map Zau) := (ZfE _ _ _).map Zau
      cases hft : Zr (fun i => neq (gl (rd s.tombs i) 0) key) 0 s.tombs.length with
      | none =>
        have hnt : key ∉ s.tombs.map Zau := fun hm => by
          obtain ⟨r, hr, hrk⟩ := List.mem_map.1 hm
          obtain ⟨i, hi, e⟩ := List.getElem_of_mem hr
          have e2 : rd s.tombs i = r := by simp [rd, List.getD, hi, e]
          have := firstI_none.1 hft i (Nat.zero_le _) (by omega)
          rw [e2, show gl r 0 = key from hrk, Zea] at this
          cases this
        refine ⟨h.idx0, h.idx1, hrows, h.tombs, h.lost, h.sessL, h.sess, h.lastsL, h.lasts, ?_⟩
        refine (hpr.append_right _).symm.nodup ?_
        rw [List.cons_append]
        exact List.nodup_cons.2 ⟨fun hm => (List.mem_append.1 hm).elim hno hnt, h.nd⟩
      | some j =>
        have hj := ZbL hft
        have hq : neq (gl (rd s.tombs j) 0) key = true := (ZX hft).2.2.1
        have hkk : gl (rd s.tombs j) 0 = key := K5_neq (h.tombs _ (Zu hj)).1 hk hq
        refine ⟨h.idx0, h.idx1, hrows, fun r hr => h.tombs r (Zb9 hr), h.lost, h.sessL, h.sess, h.lastsL, h.lasts, ?_⟩
        have ht : (s.tombs.map Zau).Perm (key :: (Zae s.tombs j).map Zau) := by
          have := (Ze2 hj).map Zau
          rw [List.map_cons, show Zau (rd s.tombs j) = key from hkk] at this
          exact this
        have hp : (s.rows.map Zau ++ s.tombs.map Zau).Perm ((Z2 s.rows (ZaT s.rows key) (ZU key val s.idx 0)).map Zau ++ (Zae s.tombs j).map Zau) :=
          ((ht.append_left _).trans List.perm_middle).trans (hpr.append_right _).symm
        exact hp.nodup h.nd
end Go.Eng.R
open Go Go.Eng
namespace Go.Eng.R
set_option maxRecDepth 100000
theorem DI.setRow {s : SD} {n : Nat} (h : DI s n) {j : Nat} (hj : j < s.rows.length) {v : List V} {t o : Int} (hv : BS v) (ht : I64 t) (ho : I64 o) : DI { s with rows := s.rows.set j (ZU (gl (rd s.rows j) 0) v t o) } n := by
  refine ⟨h.idx0, h.idx1, fun r hr => ?_, h.tombs, h.lost, h.sessL, h.sess, h.lastsL, h.lasts, ?_⟩
  · rcases List.mem_or_eq_of_mem_set hr with hr | hr
    · exact h.rows r hr
    · subst hr; exact ⟨(h.rows _ (Zu hj)).1, hv, ht, ho⟩
  · show ((s.rows.set j (ZU (gl (rd s.rows j) 0) v t o)).map Zau ++ s.tombs.map Zau).Nodup
    rw [ZiM (f := Zau) (x := ZU (gl (rd s.rows j) 0) v t o) hj rfl]; exact h.nd
theorem DI.shutL {n : Nat} (hn : n ≤ 1000) (id : Int) (del : Bool) : ∀ (m k : Nat) (s : SD), DI s n → DI (SD.shutL id del m k s) n
  | 0, _, _, h => h
  | m + 1, k, s, h => by
    rw [SD.shutL]
    by_cases hk : k < s.rows.length
    case neg => rw [dF hk]; exact h
    rw [dT hk]
    cases decide (gi (rd s.rows k) 3 = id) with
    | false => exact DI.shutL hn id del m (k + 1) s h
    | true =>
      cases del with
      | true => exact DI.shutL hn id true m k _ (h.bury hn hk)
      | false => exact DI.shutL hn id false m (k + 1) _ (h.setRow hk (h.rows _ (Zu hk)).2.1 (h.idxI hn) Zlg)
theorem DI.shut {s : SD} {n : Nat} (h : DI s n) (hn : n ≤ 1000) {i : Nat} (hi : i < s.sess.length) : DI (s.shut i) n := by
  have hl := h.sessL
  exact DI.shutL hn _ _ _ _ _ ⟨h.idx0, h.idx1, h.rows, h.tombs, h.lost, by show (Zae s.sess i).length ≤ 8; rw [Zcz hi]; omega, fun x hx => h.sess x (Zb9 hx), h.lastsL, h.lasts, h.nd⟩
theorem DI.hold {s : SD} {n : Nat} (h : DI s n) {key : List V} {o : Int} (ho : I64 o) : DI (s.hold key o) n := by
  unfold SD.hold
  cases hf : Zr (fun i => neq (gl (rd s.rows i) 0) key) 0 s.rows.length with
  | none => exact h
  | some j =>
    have hj := ZbL hf
    exact h.setRow hj (h.rows _ (Zu hj)).2.1 (h.rows _ (Zu hj)).2.2.1 ho
theorem ZfF {s : SD} {key : List V} {j : Nat} (h : s.look key = some j) : j < s.rows.length := by
  unfold SD.look at h
  cases hk : decide (0 < key.length) with
  | false => rw [hk] at h; cases h
  | true => rw [hk] at h; exact ZbL h
theorem DI.do' {s : SD} {n : Nat} (h : DI s n) (hn : n ≤ 1000) {k : Int} {key val : List V} {o : Int} (hk : key ∈ K5 ∨ (key = [] ∧ opN k)) (hv : BS val) (ho : I64 o) : DI (s.do' k key val o).2 n ∧ 0 ≤ (s.do' k key val o).1 ∧ (s.do' k key val o).1 ≤ 4 := by
  have hp : opN k ∨ DI (s.put key val).2 n := by
    rcases hk with hk | ⟨-, hk⟩
    · exact .inr (h.put hn hk hv)
    · exact .inl hk
  have hps : (k = 1 ∨ k = 2) → DI (s.puts key val).2 n ∧ 0 ≤ (s.puts key val).1 ∧ (s.puts key val).1 ≤ 4 := fun hkk => by
    refine ⟨?_, ?_⟩
    · rcases hp with hp | hp
      · obtain ⟨a, b, c⟩ := hp; omega
      · exact hp
    · show 0 ≤ ZdB (s.put key val).1 ∧ ZdB (s.put key val).1 ≤ 4
      unfold ZdB; cases (s.put key val).1 <;> decide
  unfold SD.do'
  by_cases h1 : k = 1
  · rw [dT h1]; exact hps (.inl h1)
  rw [dF h1]
  by_cases h2 : k = 2
  · rw [dT h2]
    simp only [cond_false, cond_true]
    cases decide ((match s.look key with | some j => gi (rd s.rows j) 2 | none => 0) = o) with
    | true => exact hps (.inr h2)
    | false => exact ⟨h, (by decide : (0 : Int) ≤ 3), (by decide : (3 : Int) ≤ 4)⟩
  rw [dF h2]
  by_cases h3 : k = 3
  · rw [dT h3]
    simp only [cond_false, cond_true]
    cases hl : s.look key with
    | none => exact ⟨h, (by decide : (0 : Int) ≤ 1), (by decide : (1 : Int) ≤ 4)⟩
    | some j => exact ⟨h.bury hn (ZfF hl), (by decide : (0 : Int) ≤ 0), (by decide : (0 : Int) ≤ 4)⟩
  rw [dF h3]
  by_cases h4 : k = 4
  · rw [dT h4]
    simp only [cond_false, cond_true]
    by_cases h8 : 8 ≤ s.sess.length
    · rw [dT h8]; exact ⟨h, (by decide : (0 : Int) ≤ 4), (by decide : (4 : Int) ≤ 4)⟩
    · rw [dF h8]
      refine ⟨⟨h.idx0, h.idx1, h.rows, h.tombs, h.lost, ?_, fun x hx => ?_, h.lastsL, h.lasts, h.nd⟩, (by decide : (0 : Int) ≤ 0), (by decide : (0 : Int) ≤ 4)⟩
      · show (s.sess ++ [_]).length ≤ 8
        rw [List.length_append, List.length_singleton]; omega
      · rcases List.mem_append.1 hx with hx | hx
        · exact h.sess x hx
        · rw [List.mem_singleton.1 hx]; exact h.idxI hn
  rw [dF h4]
  by_cases h5 : k = 5
  · rw [dT h5]
    simp only [cond_false, cond_true]
    cases hl : s.sessAt o with
    | none => exact ⟨h, (by decide : (0 : Int) ≤ 1), (by decide : (1 : Int) ≤ 4)⟩
    | some i => exact ⟨h.shut hn (by have := (ZX hl).2.1; omega), (by decide : (0 : Int) ≤ 0), (by decide : (0 : Int) ≤ 4)⟩
  rw [dF h5]
  by_cases h6 : k = 6
  · rw [dT h6]
    simp only [cond_false, cond_true]
    have hpp : DI (s.put key val).2 n := by
      rcases hp with hp | hp
      · obtain ⟨a, b, c⟩ := hp; omega
      · exact hp
    cases s.sessAt o with
    | none => exact ⟨h, (by decide : (0 : Int) ≤ 1), (by decide : (1 : Int) ≤ 4)⟩
    | some i =>
      simp only []
      have fin : DI (bif (s.put key val).1 then ((0 : Int), (s.put key val).2.hold key o) else (4, (s.put key val).2)).2 n ∧ 0 ≤ (bif (s.put key val).1 then ((0 : Int), (s.put key val).2.hold key o) else (4, (s.put key val).2)).1 ∧ (bif (s.put key val).1 then ((0 : Int), (s.put key val).2.hold key o) else (4, (s.put key val).2)).1 ≤ 4 := by
        cases (s.put key val).1 with
        | true => exact ⟨hpp.hold ho, (by decide : (0 : Int) ≤ 0), (by decide : (0 : Int) ≤ 4)⟩
        | false => exact ⟨hpp, (by decide : (0 : Int) ≤ 4), (by decide : (4 : Int) ≤ 4)⟩
      cases s.look key with
      | none => exact fin
      | some j =>
        simp only []
        cases !decide (gi (rd s.rows j) 3 = 0) && !decide (gi (rd s.rows j) 3 = o) with
        | true => exact ⟨h, (by decide : (0 : Int) ≤ 2), (by decide : (2 : Int) ≤ 4)⟩
        | false => exact fin
  rw [dF h6]
  by_cases h7 : k = 7
  · rw [dT h7]
    simp only [cond_false, cond_true]
    cases hl : s.look key with
    | none => exact ⟨h, (by decide : (0 : Int) ≤ 1), (by decide : (1 : Int) ≤ 4)⟩
    | some j =>
      have hj := ZfF hl
      simp only []
      cases decide (gi (rd s.rows j) 3 = o) with
      | true => exact ⟨h.setRow hj (h.rows _ (Zu hj)).2.1 (h.idxI hn) Zlg, (by decide : (0 : Int) ≤ 0), (by decide : (0 : Int) ≤ 4)⟩
      | false => exact ⟨h, (by decide : (0 : Int) ≤ 1), (by decide : (1 : Int) ≤ 4)⟩
  rw [dF h7]
  exact ⟨h, (by decide : (0 : Int) ≤ 0), (by decide : (0 : Int) ≤ 4)⟩
def D_Cmd (c : V) : Prop := gi c 0 < 0 ∨ ((gl c 3 ∈ K5 ∨ (gl c 3 = [] ∧ opN (gi c 2))) ∧ BS (gl c 4) ∧ I64 (gi c 5) ∧ I64 (gi c 0) ∧ I64 (gi c 1))
theorem DI.up {s : SD} {n : Nat} (h : DI s n) : DI s.up (n + 1) := by
  refine ⟨?_, ?_, h.rows, h.tombs, h.lost, h.sessL, h.sess, Nat.le_succ_of_le h.lastsL, h.lasts, h.nd⟩
  · show 0 ≤ s.idx + 1; have := h.idx0; omega
  · show s.idx + 1 ≤ ((n + 1 : Nat) : Int); have := h.idx1; omega
theorem DI.apply {s : SD} {n : Nat} (h : DI s n) (hn : n ≤ 900) {c : V} (hc : D_Cmd c) : DI (s.apply c).2 (n + 1) := by
  have hu := h.up
  have hiu := hu.idxI (by omega)
  unfold SD.apply
  by_cases h0 : gi c 0 < 0
  · rw [dT h0]; exact hu
  rw [dF h0]
  rcases hc with hc | ⟨hk, hv, ho, hc0, hc1⟩
  · exact absurd hc h0
  obtain ⟨d1, d2, d3⟩ := hu.do' (by omega) hk hv ho
  have hdl := ZjX s.up (gi c 2) (gl c 3) (gl c 4) (gi c 5)
  have hco : I64 (s.up.do' (gi c 2) (gl c 3) (gl c 4) (gi c 5)).1 := ⟨by omega, by omega⟩
  have hcl := Zlf s.lasts (gi c 0)
  generalize ZbA s.lasts (gi c 0) = k at *
  simp only [cond_false]
  have fin : ∀ l : List V, l.length ≤ n + 1 → (∀ x ∈ l, I64 (gi x 0) ∧ I64 (gi x 1) ∧ I64 (gi x 2) ∧ I64 (gi x 3)) → DI { (s.up.do' (gi c 2) (gl c 3) (gl c 4) (gi c 5)).2 with lasts := l } (n + 1) := fun l h1 h2 =>
    ⟨d1.idx0, d1.idx1, d1.rows, d1.tombs, d1.lost, d1.sessL, d1.sess, h1, h2, d1.nd⟩
  have hL := h.lastsL
  have hnew : DI { (s.up.do' (gi c 2) (gl c 3) (gl c 4) (gi c 5)).2 with lasts := Z2 s.lasts k (Zgg (gi c 0) (gi c 1) (s.up.do' (gi c 2) (gl c 3) (gl c 4) (gi c 5)).1 (s.idx + 1)) } (n + 1) := by
    refine fin _ (by rw [ZcS hcl]; omega) fun x hx => ?_
    rcases Zf1 hx with rfl | hx
    · exact ⟨hc0, hc1, hco, hiu⟩
    · exact h.lasts x hx
  by_cases hk1 : k < s.lasts.length
  case neg => rw [dF hk1]; exact hnew
  rw [dT hk1]
  by_cases hk2 : gi (rd s.lasts k) 0 = gi c 0
  case neg => rw [dF hk2]; exact hnew
  rw [dT hk2]
  simp only [Bool.and_self, cond_true]
  by_cases hk3 : gi (rd s.lasts k) 1 = gi c 1
  · rw [dT hk3]; exact hu
  rw [dF hk3]
  simp only [cond_false]
  by_cases hk4 : gi c 1 < gi (rd s.lasts k) 1
  · rw [dT hk4]; exact hu
  rw [dF hk4]
  refine fin _ (by rw [List.length_set]; omega) fun x hx => ?_
  rcases List.mem_or_eq_of_mem_set hx with hx | hx
  · exact h.lasts x hx
  · subst hx; exact ⟨(h.lasts _ (Zu hk1)).1, hc1, hco, hiu⟩
theorem app_K {s : SD} {n : Nat} (h : DI s n) (hn : n ≤ 900) {c : V} (hc : D_Cmd c) (hk : (gl c 3).length ≤ 1000) (hv : (gl c 4).length ≤ 1000) : Ok (fun r => ∃ s', DI s' (n + 1) ∧ r.2 = s'.v) (ZJ s.v c) := by
  have hf := h.few; have h1 := h.sessL; have h2 := h.lastsL; have i0 := h.idx0; have i1 := h.idx1
  exact ⟨_, Zms (by omega) (by omega) (by omega) (by omega) (by omega) hk hv, _, h.apply hn hc, rfl⟩
end Go.Eng.R
open Go Go.Eng
namespace Go.Eng.R
set_option maxRecDepth 100000
def nb (b1 : V) : V := V.agg [(V.int .i64 (gi b1 0)), (V.sl 3 Zg 0 none), (V.sl 4 Zf 0 none), (V.int .i64 (gi b1 3)), (V.sl 5 Zd 0 none), (V.sl 6 Ze 0 none)]
def StR (r : V × V × V × List V × List V × List V × List V × List V × List V × List V × List V) : Prop :=
  ZL r.1 ∧ ∃ (s' : SD) (m : Nat), m ≤ 20 ∧ DI s' m ∧ r.2.2.1 = s'.b 7 8 9 10 ∧ r.2.2.2.2.2.2.2.1 = s'.rows ∧ r.2.2.2.2.2.2.2.2.1 = s'.tombs ∧ r.2.2.2.2.2.2.2.2.2.1 = s'.sess ∧ r.2.2.2.2.2.2.2.2.2.2 = s'.lasts
theorem Zp3 {k : List V} {o : Int} (h : k ∈ K5 ∨ (k = [] ∧ opN o)) : k.length ≤ 1000 := by
  rcases h with h | ⟨rfl, -⟩
  · have := (Zjf h).2; omega
  · exact Nat.zero_le _
theorem Zlh {n4 : Int} (hn : n4 ≤ 20) : ∀ (k i : Nat) (s : SD) (c b1 : V) (r3 r4 r5 r6 : List V), ZL c → DI s i → (i : Int) ≤ n4 → (n4 - (i : Int)).toNat < k →
    Ok StR (ZE k n4 (i : Int) (Zb c) b1 (s.b 7 8 9 10) r3 r4 r5 r6 s.rows s.tombs s.sess s.lasts)
  | 0, i, s, c, b1, r3, r4, r5, r6, hc, h, hi, hk => by omega
  | k + 1, i, s, c, b1, r3, r4, r5, r6, hc, h, hi, hk => by
    rw [ZE]
    by_cases hin : (i : Int) < n4
    case neg => rw [dF hin]; exact ⟨_, rfl, hc, s, i, by omega, h, rfl, rfl, rfl, rfl, rfl⟩
    rw [dT hin]
    simp only [cond_true]
    have ew : IntKind.i64.wrap ((i : Int) + 1) = ((i + 1 : Nat) : Int) := by rw [Zap (by omega) (by omega)]; omega
    have fin : ∀ (cm cur : V), ZL cur → D_Cmd cm → (gl cm 3).length ≤ 1000 → (gl cm 4).length ≤ 1000 → Ok StR (Option.bind (ZJ s.v cm) fun r =>
        ZE k n4 (IntKind.i64.wrap ((i : Int) + 1)) (Zb cur) (nb b1) (V.agg [(V.int .i64 (gi r.2 0)), (V.sl 7 Zg 0 none), (V.sl 8 Zf 0 none), (V.int .i64 (gi r.2 3)), (V.sl 9 Zd 0 none), (V.sl 10 Ze 0 none)]) r3 r4 r5 r6 (gl r.2 1) (gl r.2 2) (gl r.2 4) (gl r.2 5)) := fun cm cur hcur hcm h3 h4 => by
      refine Ok.bind (app_K h (by omega) hcm h3 h4) ?_
      rintro ⟨rp, st⟩ ⟨s', hs', e⟩
      have e : st = s'.v := e
      subst e
      rw [ew]
      exact Zlh hn k (i + 1) s' cur (nb b1) r3 r4 r5 r6 hcur hs' (by omega) (by omega)
    have none' : ∀ cur : V, ZL cur → Ok StR (Option.bind (ZJ s.v (V.agg [(V.int .i64 (-1)), (V.int .i64 0), (V.int .i64 0), (V.inl Zc []), (V.inl Zc []), (V.int .i64 0)])) fun r =>
        ZE k n4 (IntKind.i64.wrap ((i : Int) + 1)) (Zb cur) (nb b1) (V.agg [(V.int .i64 (gi r.2 0)), (V.sl 7 Zg 0 none), (V.sl 8 Zf 0 none), (V.int .i64 (gi r.2 3)), (V.sl 9 Zd 0 none), (V.sl 10 Ze 0 none)]) r3 r4 r5 r6 (gl r.2 1) (gl r.2 2) (gl r.2 4) (gl r.2 5)) := fun cur hcur =>
      fin _ cur hcur (.inl (show (-1 : Int) < 0 by omega)) (Nat.zero_le _) (Nat.zero_le _)
    have some' : ∀ (cur o : V) (x m : Int), ZL cur → D_Op o → I64 x → I64 m → Ok StR (Option.bind (ZJ s.v (V.agg [(V.int .i64 x), (V.int .i64 (IntKind.i64.wrap (1 + (i : Int)))), (V.int .i64 (gi o 0)), (V.inl Zc (gl o 1)), (V.inl Zc (gl o 2)), (V.int .i64 m)])) fun r =>
        ZE k n4 (IntKind.i64.wrap ((i : Int) + 1)) (Zb cur) (nb b1) (V.agg [(V.int .i64 (gi r.2 0)), (V.sl 7 Zg 0 none), (V.sl 8 Zf 0 none), (V.int .i64 (gi r.2 3)), (V.sl 9 Zd 0 none), (V.sl 10 Ze 0 none)]) r3 r4 r5 r6 (gl r.2 1) (gl r.2 2) (gl r.2 4) (gl r.2 5)) := fun cur o x m hcur ho hx hm =>
      fin _ cur hcur (.inr ⟨ho.1, ho.2.1, hm, hx, wrI _⟩) (Zp3 ho.1) (by have := ho.2.1.2; show (gl o 2).length ≤ 1000; omega)
    refine Ok.bind2 (ZbM hc 3) ?_
    rintro x c1 ⟨h1, x0, x1, -⟩
    have hx : I64 x := ⟨by omega, by omega⟩
    refine Ok.bind2 (op_K h1 _) ?_
    rintro o c2 ⟨h2, ho⟩
    by_cases hi0 : (i : Int) = 0
    · rw [dT hi0]
      simp only [cond_true]
      refine Ok.bind2 (ZbM h2 2) ?_
      rintro y c3 ⟨h3, y0, y1, -⟩
      refine Ok.bind (Zfq h3 9) ?_
      rintro ⟨b, c4⟩ h4
      cases b with
      | true => exact none' c4 h4
      | false => exact some' c4 (V.agg [(V.int .i64 4), (V.inl Zc []), (V.inl Zc []), (V.int .i64 y)]) x y h4 ⟨.inr ⟨rfl, by show (4 : Int) ≠ 1; omega, by show (4 : Int) ≠ 2; omega, by show (4 : Int) ≠ 6; omega⟩, BS.nil, ⟨by show (-9223372036854775808 : Int) ≤ 4; omega, by show (4 : Int) ≤ 9223372036854775807; omega⟩, ⟨by show (-9223372036854775808 : Int) ≤ y; omega, by show y ≤ 9223372036854775807; omega⟩⟩ hx ⟨by omega, by omega⟩
    rw [dF hi0]
    simp only [cond_false]
    have last : ∀ cur : V, ZL cur → Ok StR (Option.bind (ZH (Zb cur) 9) fun q => bif q.1 then (Option.bind (ZJ s.v (V.agg [(V.int .i64 (-1)), (V.int .i64 0), (V.int .i64 0), (V.inl Zc []), (V.inl Zc []), (V.int .i64 0)])) fun r =>
          ZE k n4 (IntKind.i64.wrap ((i : Int) + 1)) (Zb q.2) (nb b1) (V.agg [(V.int .i64 (gi r.2 0)), (V.sl 7 Zg 0 none), (V.sl 8 Zf 0 none), (V.int .i64 (gi r.2 3)), (V.sl 9 Zd 0 none), (V.sl 10 Ze 0 none)]) r3 r4 r5 r6 (gl r.2 1) (gl r.2 2) (gl r.2 4) (gl r.2 5))
        else (Option.bind (ZJ s.v (V.agg [(V.int .i64 x), (V.int .i64 (IntKind.i64.wrap (1 + (i : Int)))), (V.int .i64 (gi o 0)), (V.inl Zc (gl o 1)), (V.inl Zc (gl o 2)), (V.int .i64 (gi o 3))])) fun r =>
          ZE k n4 (IntKind.i64.wrap ((i : Int) + 1)) (Zb q.2) (nb b1) (V.agg [(V.int .i64 (gi r.2 0)), (V.sl 7 Zg 0 none), (V.sl 8 Zf 0 none), (V.int .i64 (gi r.2 3)), (V.sl 9 Zd 0 none), (V.sl 10 Ze 0 none)]) r3 r4 r5 r6 (gl r.2 1) (gl r.2 2) (gl r.2 4) (gl r.2 5))) := fun cur hcur => by
      refine Ok.bind (Zfq hcur 9) ?_
      rintro ⟨b, c4⟩ h4
      cases b with
      | true => exact none' c4 h4
      | false => exact some' c4 o x (gi o 3) h4 ho hx ho.2.2.2
    by_cases h5 : (5 : Int) ≤ gi o 0
    case neg => rw [dF h5]; exact last c2 h2
    rw [dT h5]
    by_cases hs : 0 < s.sess.length
    case neg => rw [dF (show ¬ (0 : Int) < ((s.sess.length : Nat) : Int) by omega)]; exact last c2 h2
    rw [dT (show (0 : Int) < ((s.sess.length : Nat) : Int) by omega)]
    simp only [cond_true]
    refine Ok.bind (Zfq h2 3) ?_
    rintro ⟨b, c3⟩ h3
    cases b with
    | true => exact last c3 h3
    | false =>
      simp only [Bool.not_false, cond_true]
      refine Ok.bind2 (ZbM h3 _) ?_
      rintro y c4 ⟨h4, y0, y1, y2⟩
      have hy : y.toNat < s.sess.length := by omega
      rw [ZdA y0 (by omega)]
      simp only [cond_true]
      refine Ok.bind (Zfq h4 9) ?_
      rintro ⟨b, c5⟩ h5'
      cases b with
      | true => exact none' c5 h5'
      | false => exact some' c5 o x (gi (rd s.sess (0 + y.toNat)) 0) h5' ho hx (by rw [Nat.zero_add]; exact h.sess _ (Zu hy))
theorem state_O {c : V} (h : ZL c) : Ok2 (fun st c => ZL c ∧ ∃ (s : SD) (m : Nat), m ≤ 20 ∧ DI s m ∧ st = s.v) (Zfj (Zb c)) := by
  unfold Zfj
  refine .of ?_
  refine Ok.bind2 (ZbM h 20) ?_
  rintro n c1 ⟨h1, n0, n1, n2⟩
  have hz : DI ⟨0, [], [], 0, [], []⟩ 0 := ⟨Int.le_refl _, Int.le_refl _, fun _ h => (by cases h), fun _ h => (by cases h), Zlg, Nat.zero_le _, fun _ h => (by cases h), Nat.le_refl _, fun _ h => (by cases h), List.nodup_nil⟩
  refine Ok.bind (Zlh (n4 := n) (by omega) ((n - 0).toNat + 1) 0 ⟨0, [], [], 0, [], []⟩ c1 _ [] [] [] [] h1 hz n0 (by omega)) ?_
  rintro r ⟨hc, s, m, hm, hs, e1, e2, e3, e4, e5⟩
  refine ⟨_, rfl, hc, s, m, hm, hs, ?_⟩
  rw [e1, e2, e3, e4, e5]; rfl
structure BI (s : SD) : Prop where
  idx : I64 s.idx
  rowsL : s.rows.length ≤ 30
  rows : ∀ r ∈ s.rows, BS (gl r 0) ∧ BS (gl r 1) ∧ I64 (gi r 2) ∧ I64 (gi r 3)
  tombsL : s.tombs.length ≤ 30
  tombs : ∀ r ∈ s.tombs, BS (gl r 0) ∧ I64 (gi r 1)
  lost : I64 s.lost
  sessL : s.sess.length ≤ 30
  sess : ∀ x ∈ s.sess, I64 (gi x 0)
  lastsL : s.lasts.length ≤ 30
  lasts : ∀ x ∈ s.lasts, I64 (gi x 0) ∧ I64 (gi x 1) ∧ I64 (gi x 2) ∧ I64 (gi x 3)
theorem DI.bi {s : SD} {m : Nat} (hm : m ≤ 20) (h : DI s m) : BI s := by
  have hf := h.few; have hs := h.sessL; have hl := h.lastsL
  exact ⟨h.idxI (by omega), by omega, fun r hr => ⟨Zjf (h.rows r hr).1, (h.rows r hr).2⟩, by omega, fun r hr => ⟨Zjf (h.tombs r hr).1, (h.tombs r hr).2⟩, h.lost, by omega, h.sess, by omega, h.lasts⟩
theorem BI.W {s : SD} (h : BI s) : Zb4 s.v := by
  have h1 := h.rowsL; have h2 := h.tombsL; have h3 := h.sessL; have h4 := h.lastsL
  exact ⟨h.idx, ⟨by show s.rows.length ≤ _; omega, fun r hr => ⟨(h.rows r hr).1.1, (h.rows r hr).2.1.1, (h.rows r hr).2.2⟩⟩, ⟨by show s.tombs.length ≤ _; omega, fun r hr => ⟨(h.tombs r hr).1.1, (h.tombs r hr).2⟩⟩, h.lost, ⟨by show s.sess.length ≤ _; omega, fun r hr => ⟨h.sess r hr, trivial⟩⟩, ⟨by show s.lasts.length ≤ _; omega, fun r hr => h.lasts r hr⟩⟩
end Go.Eng.R
open Go Go.Eng
namespace Go.Eng.R
set_option maxRecDepth 100000
def StB (r : V × V) : Prop := ZL r.2 ∧ ∃ s : SD, BI s ∧ r.1 = s.v
theorem BI.setRow {s : SD} (h : BI s) (j : Nat) {x : V} (hx : BS (gl x 0) ∧ BS (gl x 1) ∧ I64 (gi x 2) ∧ I64 (gi x 3)) : BI { s with rows := s.rows.set j x } :=
  ⟨h.idx, by show (s.rows.set j x).length ≤ 30; rw [List.length_set]; exact h.rowsL, fun r hr => (List.mem_or_eq_of_mem_set hr).elim (h.rows r) fun e => e ▸ hx, h.tombsL, h.tombs, h.lost, h.sessL, h.sess, h.lastsL, h.lasts⟩
theorem bent_S {c : V} (h : ZL c) : Ok StB (Zev (Zb c)) := by
  unfold Zev
  refine Ok.bind2 (state_O h) ?_
  rintro st c1 ⟨h1, s, m, hm, hs, rfl⟩
  have hb := hs.bi hm
  have hf := hs.few; have hsl := hs.sessL; have hll := hs.lastsL
  have same : ∀ cur : V, ZL cur → Ok StB (some (Za s.v, Zb cur)) := fun cur hc => ⟨_, rfl, hc, s, hb, rfl⟩
  refine Ok.bind (Zfq h1 6) ?_
  rintro ⟨b, c2⟩ h2
  cases b with
  | false => exact same c2 h2
  | true =>
  simp only [Bool.not_true, cond_false]
  refine Ok.bind2 (ZbM h2 8) ?_
  rintro k c3 ⟨h3, -, -, -⟩
  by_cases k0 : k = 0
  · rw [dT k0]
    simp only [cond_true]
    refine Ok.bind2 (Zf0 h3 (by decide) ⟨⟨by decide, by decide⟩, ⟨by decide, by decide⟩, ⟨by decide, by decide⟩, ⟨by decide, by decide⟩, trivial⟩) ?_
    rintro x c4 ⟨h4, hx⟩
    exact ⟨_, rfl, h4, { s with idx := x }, ⟨hx, hb.rowsL, hb.rows, hb.tombsL, hb.tombs, hb.lost, hb.sessL, hb.sess, hb.lastsL, hb.lasts⟩, rfl⟩
  rw [dF k0]
  by_cases k1 : k = 1
  · rw [dT k1]
    simp only [cond_false, cond_true]
    by_cases hr : 0 < s.rows.length
    case neg => rw [show decide ((0 : Int) < ((gl s.v 1).length : Int)) = false from dF (by show ¬ (0 : Int) < ((s.rows.length : Nat) : Int); omega)]; exact same c3 h3
    rw [show decide ((0 : Int) < ((gl s.v 1).length : Int)) = true from dT (by show (0 : Int) < ((s.rows.length : Nat) : Int); omega)]
    simp only [cond_true]
    refine Ok.bind2 (ZbM h3 9) ?_
    rintro y c4 ⟨h4, y0, y1, -⟩
    rw [show Zm 0 (gl s.v 1).length = true from ZdA (by omega) (by show (0 : Int) < ((s.rows.length : Nat) : Int); omega)]
    obtain ⟨q1, q2, q3, q4⟩ := hb.rows _ (Zu hr)
    exact ⟨_, rfl, h4, _, hb.setRow 0 (x := ZU (gl (rd s.rows 0) 0) (gl (rd s.rows 0) 1) (gi (rd s.rows 0) 2) y) ⟨q1, q2, q3, ⟨by show (-9223372036854775808 : Int) ≤ y; omega, by show y ≤ 9223372036854775807; omega⟩⟩, rfl⟩
  rw [dF k1]
  by_cases k2 : k = 2
  · rw [dT k2]
    simp only [cond_false, cond_true]
    by_cases hr : 0 < s.rows.length
    case neg => rw [show decide ((0 : Int) < ((gl s.v 1).length : Int)) = false from dF (by show ¬ (0 : Int) < ((s.rows.length : Nat) : Int); omega)]; exact same c3 h3
    rw [show decide ((0 : Int) < ((gl s.v 1).length : Int)) = true from dT (by show (0 : Int) < ((s.rows.length : Nat) : Int); omega)]
    simp only [cond_true]
    refine Ok.bind2 (Zf0 h3 (by decide) ⟨⟨by decide, by decide⟩, ⟨by decide, by decide⟩, ⟨by decide, by decide⟩, trivial⟩) ?_
    rintro y c4 ⟨h4, hy⟩
    rw [show Zm 0 (gl s.v 1).length = true from ZdA (by omega) (by show (0 : Int) < ((s.rows.length : Nat) : Int); omega)]
    obtain ⟨q1, q2, q3, q4⟩ := hb.rows _ (Zu hr)
    exact ⟨_, rfl, h4, _, hb.setRow 0 (x := ZU (gl (rd s.rows 0) 0) (gl (rd s.rows 0) 1) y (gi (rd s.rows 0) 3)) ⟨q1, q2, hy, q4⟩, rfl⟩
  rw [dF k2]
  by_cases k3 : k = 3
  · rw [dT k3]
    simp only [cond_false, cond_true]
    refine Ok.bind2 (ZlZ h3) ?_
    rintro y c4 ⟨h4, hy⟩
    rw [show (Zw ((gl s.v 2).length + 1) 32 && true) = true from Zaf (by show (s.tombs.length + 1) * 32 ≤ _; omega) (by show s.tombs.length + 1 ≤ _; omega)]
    refine ⟨_, rfl, h4, { s with tombs := s.tombs ++ [Za5 y s.idx] }, ⟨hb.idx, hb.rowsL, hb.rows, by show (s.tombs ++ [_]).length ≤ 30; rw [List.length_append, List.length_singleton]; omega, fun r hr => ?_, hb.lost, hb.sessL, hb.sess, hb.lastsL, hb.lasts⟩, rfl⟩
    rcases List.mem_append.1 hr with hr | hr
    · exact hb.tombs r hr
    · rw [List.mem_singleton.1 hr]; exact ⟨Zjf hy, hb.idx⟩
  rw [dF k3]
  by_cases k4 : k = 4
  · rw [dT k4]
    simp only [cond_false, cond_true]
    refine Ok.bind2 (Zf0 h3 (by decide) ⟨⟨by decide, by decide⟩, ⟨by decide, by decide⟩, ⟨by decide, by decide⟩, trivial⟩) ?_
    rintro x c4 ⟨h4, hx⟩
    exact ⟨_, rfl, h4, { s with lost := x }, ⟨hb.idx, hb.rowsL, hb.rows, hb.tombsL, hb.tombs, hx, hb.sessL, hb.sess, hb.lastsL, hb.lasts⟩, rfl⟩
  rw [dF k4]
  by_cases k5 : k = 5
  · rw [dT k5]
    simp only [cond_false, cond_true]
    refine Ok.bind2 (ZbM h3 9) ?_
    rintro y c4 ⟨h4, y0, y1, -⟩
    rw [show (Zw ((gl s.v 4).length + 1) 16 && true) = true from Zaf (by show (s.sess.length + 1) * 16 ≤ _; omega) (by show s.sess.length + 1 ≤ _; omega)]
    refine ⟨_, rfl, h4, { s with sess := s.sess ++ [Zjc y false] }, ⟨hb.idx, hb.rowsL, hb.rows, hb.tombsL, hb.tombs, hb.lost, by show (s.sess ++ [_]).length ≤ 30; rw [List.length_append, List.length_singleton]; omega, fun r hr => ?_, hb.lastsL, hb.lasts⟩, rfl⟩
    rcases List.mem_append.1 hr with hr | hr
    · exact hb.sess r hr
    · rw [List.mem_singleton.1 hr]; exact ⟨by show (-9223372036854775808 : Int) ≤ y; omega, by show y ≤ 9223372036854775807; omega⟩
  rw [dF k5]
  by_cases k6 : k = 6
  · rw [dT k6]
    simp only [cond_false, cond_true]
    refine Ok.bind2 (ZbM h3 6) ?_
    rintro y c4 ⟨h4, y0, y1, -⟩
    rw [show (Zw ((gl s.v 5).length + 1) 32 && true) = true from Zaf (by show (s.lasts.length + 1) * 32 ≤ _; omega) (by show s.lasts.length + 1 ≤ _; omega)]
    refine ⟨_, rfl, h4, { s with lasts := s.lasts ++ [Zgg (IntKind.i64.wrap (y - 1)) 1 0 1] }, ⟨hb.idx, hb.rowsL, hb.rows, hb.tombsL, hb.tombs, hb.lost, hb.sessL, hb.sess, by show (s.lasts ++ [_]).length ≤ 30; rw [List.length_append, List.length_singleton]; omega, fun r hr => ?_⟩, rfl⟩
    rcases List.mem_append.1 hr with hr | hr
    · exact hb.lasts r hr
    · rw [List.mem_singleton.1 hr]
      have o1 : I64 1 := ⟨by decide, by decide⟩
      exact ⟨wrI _, o1, Zlg, o1⟩
  rw [dF k6]
  simp only [cond_false]
  by_cases hr : 0 < s.rows.length
  case neg => rw [show decide ((0 : Int) < ((gl s.v 1).length : Int)) = false from dF (by show ¬ (0 : Int) < ((s.rows.length : Nat) : Int); omega)]; exact same c3 h3
  rw [show decide ((0 : Int) < ((gl s.v 1).length : Int)) = true from dT (by show (0 : Int) < ((s.rows.length : Nat) : Int); omega)]
  simp only [cond_true]
  refine Ok.bind2 (ZbM h3 3) ?_
  rintro y c4 ⟨h4, y0, y1, y2⟩
  rw [ZdA (n := 3) y0 (by omega), show Zm 0 (gl s.v 1).length = true from ZdA (by omega) (by show (0 : Int) < ((s.rows.length : Nat) : Int); omega)]
  obtain ⟨q1, q2, q3, q4⟩ := hb.rows _ (Zu hr)
  have hk : BS (gs (rd [(V.str []), (V.str [(V.int .u8 65)]), (V.str [(V.int .u8 122), (V.int .u8 122)])] (0 + y.toNat)) 0) := bsAll_rd rfl (by simp; omega)
  exact ⟨_, rfl, h4, _, hb.setRow 0 (x := ZU (gs (rd [(V.str []), (V.str [(V.int .u8 65)]), (V.str [(V.int .u8 122), (V.int .u8 122)])] (0 + y.toNat)) 0) (gl (rd s.rows 0) 1) (gi (rd s.rows 0) 2) (gi (rd s.rows 0) 3)) ⟨hk, q2, q3, q4⟩, rfl⟩
end Go.Eng.R
open Go Go.Eng
namespace Go.Eng.R
set_option maxRecDepth 100000
def AscI (l : List V) : Prop := ∀ i, i + 1 < l.length → gi (rd l i) 0 < gi (rd l (i + 1)) 0
def lbI (l : List V) (id : Int) : Nat := (l.takeWhile (fun x => decide (gi x 0 < id))).length
def ZgH (l : List V) (id : Int) : Bool := decide (lbI l id < l.length) && decide (gi (rd l (lbI l id)) 0 = id)
theorem Zli (l : List V) (id : Int) : lbI l id ≤ l.length := (List.takeWhile_prefix _).sublist.length_le
theorem AscI.tail {x : V} {l : List V} (h : AscI (x :: l)) : AscI l := fun i hi => h (i + 1) (by simpa using hi)
theorem AscI.lt {l : List V} (h : AscI l) : ∀ (j i : Nat), i < j → j < l.length → gi (rd l i) 0 < gi (rd l j) 0
  | 0, i, hi, _ => by omega
  | j + 1, i, hi, hj => by
    have h1 := h j hj
    rcases Nat.lt_or_ge i j with c | c
    · have := AscI.lt h j i c (by omega); omega
    · obtain rfl : i = j := by omega
      exact h1
theorem ZfG : ∀ {l : List V}, AscI l → ∀ (id : Int) (i : Nat), i < l.length → decide (gi (rd l i) 0 < id) = decide (i < lbI l id)
  | [], _, _, i, hi => by simp at hi
  | x :: l, h, id, i, hi => by
    unfold lbI
    by_cases hx : gi x 0 < id
    · rw [List.takeWhile_cons, if_pos (by simpa using hx), List.length_cons]
      cases i with
      | zero => rw [decide_eq_true (p := gi (rd (x :: l) 0) 0 < id) hx, decide_eq_true (by omega)]
      | succ i =>
        have := ZfG h.tail id i (by simpa using hi)
        unfold lbI at this
        rw [show rd (x :: l) (i + 1) = rd l i from rfl, this]
        congr 1
        exact propext ⟨fun c => by omega, fun c => by omega⟩
    · rw [List.takeWhile_cons, if_neg (by simpa using hx)]
      have h0 : ¬ gi (rd (x :: l) i) 0 < id := by
        cases i with
        | zero => exact hx
        | succ i => have := h.lt (i + 1) 0 (by omega) hi; intro c; exact hx (Int.lt_trans this c)
      rw [decide_eq_false h0, decide_eq_false (by simp)]
theorem last_neg {l : V} {t : Int} (h : 0 ≤ gi l 0 ∧ gi l 0 ≤ 3) (ht : 0 ≤ t ∧ t ≤ 3) : decide (Zcf (ZfP l) t < 0) = decide (gi l 0 < t) := by
  show decide (IntKind.i64.wrap (gi l 0 - t) < 0) = _
  rw [Zap (by omega) (by omega)]
  by_cases h1 : gi l 0 < t
  · rw [decide_eq_true h1, decide_eq_true (by omega)]
  · rw [decide_eq_false h1, decide_eq_false (by omega)]
theorem Zp4 {l : V} {t : Int} (h : 0 ≤ gi l 0 ∧ gi l 0 ≤ 3) (ht : 0 ≤ t ∧ t ≤ 3) : decide (Zcf (ZfP l) t = 0) = decide (gi l 0 = t) := by
  show decide (IntKind.i64.wrap (gi l 0 - t) = 0) = _
  rw [Zap (by omega) (by omega)]
  by_cases h1 : gi l 0 = t
  · rw [decide_eq_true h1, decide_eq_true (by omega)]
  · rw [decide_eq_false h1, decide_eq_false (by omega)]
theorem bsI_eq {S : List V} (hS : S.length ≤ 4194304) (ha : AscI S) (hb : ∀ i, i < S.length → 0 ≤ gi (rd S i) 0 ∧ gi (rd S i) 0 ≤ 3) {t : Int} (ht : 0 ≤ t ∧ t ≤ 3) : ZaX S t = some (((lbI S t : Nat) : Int), ZgH S t) := by
  unfold ZaX
  have hle := Zli S t
  rw [Zbd, show (0 : Int) = ((0 : Nat) : Int) from rfl, Zi8 (F := fun m i j => ZT m S t ((S.length : Nat) : Int) i j) (x := S) (p := fun r => decide (gi r 0 < t)) (n0 := lbI S t) (out := fun i => some (S, t, ((S.length : Nat) : Int), i)) (by omega) (ZfG ha t) ?_ ?_ (S.length + 1) 0 S.length (by omega) hle (by omega) (by omega)]
  · simp only [Option.bind_some]
    unfold ZgH
    by_cases hc : lbI S t < S.length
    · rw [Zag hc, cond_true, Zo hc, cond_true, Int.toNat_natCast, decide_eq_true hc, Bool.true_and]
      congr 2
      exact Zp4 (hb _ hc) ht
    · rw [decide_eq_false (p := ((lbI S t : Nat) : Int) < ((S.length : Nat) : Int)) (by omega), decide_eq_false hc]
      rfl
  · intro m i j hij hj
    have hw := wr_mid (i := i) (j := j) (by omega)
    simp only [ZT, hw]
    rw [Zag hij, cond_true, Zo (show (i + j) / 2 < S.length by omega), cond_true, Int.toNat_natCast, Z8 (n := S.length) (show (i + j) / 2 < S.length by omega) (by omega)]
    rw [last_neg (hb _ (show (i + j) / 2 < S.length by omega)) ht]
  · intro m i; simp only [ZT, Z3, cond_false]
theorem sv_head {s : V} (h : ZaJ s = true) : 0 ≤ gi s 0 ∧ gi s 0 ≤ 1000000 ∧ 0 ≤ gi s 3 ∧ gi s 3 ≤ gi s 0 ∧ (gl s 1).length ≤ 20 ∧ (gl s 2).length ≤ 10 ∧ (gl s 4).length ≤ 8 ∧ (gl s 5).length ≤ 4 := by
  unfold ZaJ at h
  rw [Bool.and_eq_true] at h
  exact of_decide_eq_true h.1
theorem ZoH {s : V} (h : ZaJ s = true) : (List.range (gl s 1).length).all (Zd9 s) = true := by
  unfold ZaJ at h
  simp only [Bool.and_eq_true] at h
  exact h.2.1
theorem sv_row {s : V} (h : ZaJ s = true) {i : Nat} (hi : i < (gl s 1).length) : Zd9 s i = true := by
  have := ZoH h
  rw [List.all_eq_true] at this
  exact this i (List.mem_range.2 hi)
theorem sv_tomb {s : V} (h : ZaJ s = true) {i : Nat} (hi : i < (gl s 2).length) : ZcC s i = true := by
  unfold ZaJ at h
  simp only [Bool.and_eq_true] at h
  have := h.2.2.1
  rw [List.all_eq_true] at this
  exact this i (List.mem_range.2 hi)
theorem ZoI {s : V} (h : ZaJ s = true) {i : Nat} (hi : i < (gl s 4).length) : ZdW s i = true := by
  unfold ZaJ at h
  simp only [Bool.and_eq_true] at h
  have := h.2.2.2.1
  rw [List.all_eq_true] at this
  exact this i (List.mem_range.2 hi)
theorem ZoJ {s : V} (h : ZaJ s = true) {i : Nat} (hi : i < (gl s 5).length) : ZeJ s i = true := by
  unfold ZaJ at h
  simp only [Bool.and_eq_true] at h
  have := h.2.2.2.2
  rw [List.all_eq_true] at this
  exact this i (List.mem_range.2 hi)
theorem ZjY {k : List V} (h : Za4 k = true) : k.length ≤ 20 := by
  unfold Za4 at h
  simp only [Bool.and_eq_true, decide_eq_true_eq] at h
  exact h.2.1
theorem rowB_val {s : V} {i : Nat} (h : Zd9 s i = true) : (gl (rd (gl s 1) i) 1).length ≤ 20 := by
  unfold Zd9 at h
  simp only [Bool.and_eq_true, Bool.not_eq_true', decide_eq_false_iff_not] at h
  have := h.2.1; omega
theorem sessB_id {s : V} {i : Nat} (h : ZdW s i = true) : 1 ≤ gi (rd (gl s 4) i) 0 ∧ gi (rd (gl s 4) i) 0 ≤ gi s 0 := by
  unfold ZdW at h
  simp only [Bool.and_eq_true, Bool.not_eq_true', decide_eq_false_iff_not] at h
  omega
theorem Zn9 {s : V} (h : ZaJ s = true) : AscI (gl s 4) := by
  intro i hi
  have := ZoI h hi
  unfold ZdW at this
  simp only [Bool.and_eq_true] at this
  simpa using this.2.2
theorem Zoa {s : V} (h : ZaJ s = true) : AscI (gl s 5) := by
  intro i hi
  have := ZoJ h hi
  unfold ZeJ at this
  simp only [Bool.and_eq_true] at this
  simpa using this.2
theorem Zpk {s : V} (h : ZaJ s = true) {i : Nat} (hi : i < (gl s 5).length) : 0 ≤ gi (rd (gl s 5) i) 0 ∧ gi (rd (gl s 5) i) 0 ≤ 3 ∧ 1 ≤ gi (rd (gl s 5) i) 1 ∧ gi (rd (gl s 5) i) 1 ≤ 1000000 ∧ 0 ≤ gi (rd (gl s 5) i) 2 ∧ gi (rd (gl s 5) i) 2 ≤ 5 ∧ 1 ≤ gi (rd (gl s 5) i) 3 ∧ gi (rd (gl s 5) i) 3 ≤ gi s 0 := by
  have := ZoJ h hi
  unfold ZeJ at this
  rw [Bool.and_eq_true] at this
  exact of_decide_eq_true this.1
theorem ZcK {x : List V} (h : x.length ≤ 1000) : Zaa x = some x := by
  unfold Zaa
  rw [Zaf (by omega) (by omega)]; rfl
def RowE (a b : V) : Prop := gl a 0 = gl b 0 ∧ gl a 1 = gl b 1 ∧ gi a 2 = gi b 2 ∧ gi a 3 = gi b 3
def TombE (a b : V) : Prop := gl a 0 = gl b 0 ∧ gi a 1 = gi b 1
def SameL (E : V → V → Prop) (l l' : List V) : Prop := l.length = l'.length ∧ ∀ j, j < l'.length → E (rd l j) (rd l' j)
theorem SameL.set {E : V → V → Prop} {l l' : List V} (h : SameL E l l') {i : Nat} {z : V} (hz : E z (rd l' i)) : SameL E (l.set i z) l' := by
  refine ⟨by rw [List.length_set]; exact h.1, fun j hj => ?_⟩
  by_cases hij : j = i
  · subst hij; rw [Zbe (by rw [h.1]; exact hj)]; exact hz
  · rw [ZdM hij]; exact h.2 j hj
def nrow (r : V) : V := ZU (gl r 0) (gl r 1) (gi r 2) (gi r 3)
def Zjg (t : V) : V := Za5 (gl t 0) (gi t 1)
theorem own_O {s : V} (hr : (gl s 1).length ≤ 1000) (ht : (gl s 2).length ≤ 1000) (h4 : (gl s 4).length ≤ 1000) (h5 : (gl s 5).length ≤ 1000) (hk : ∀ j, j < (gl s 1).length → (gl (rd (gl s 1) j) 0).length ≤ 1000 ∧ (gl (rd (gl s 1) j) 1).length ≤ 1000) (hk2 : ∀ j, j < (gl s 2).length → (gl (rd (gl s 2) j) 0).length ≤ 1000) :
    ∃ R T, Zcp (Za s) = some (V.agg [(V.int .i64 (gi s 0)), (V.inl Zg R), (V.inl Zf T), (V.int .i64 (gi s 3)), (V.inl Zd (gl s 4)), (V.inl Ze (gl s 5))]) ∧ SameL RowE R (gl s 1) ∧ SameL TombE T (gl s 2) ∧ (∀ r ∈ R, nrow r = r) ∧ (∀ t ∈ T, Zjg t = t) := by
  unfold Zcp
  simp only [show gl (Za s) 1 = gl s 1 from rfl, show gl (Za s) 2 = gl s 2 from rfl, show gl (Za s) 4 = gl s 4 from rfl, show gl (Za s) 5 = gl s 5 from rfl, show gi (Za s) 0 = gi s 0 from rfl, show gi (Za s) 3 = gi s 3 from rfl]
  have c1 : Zcy (gl s 1) = some (gl s 1) := by unfold Zcy; rw [Zaf (by omega) (by omega)]; rfl
  have c2 : Zcd (gl s 2) = some (gl s 2) := by unfold Zcd; rw [Zaf (by omega) (by omega)]; rfl
  have c3 : ZbK (gl s 4) = some (gl s 4) := by unfold ZbK; rw [Zaf (by omega) (by omega)]; rfl
  have c4 : Zce (gl s 5) = some (gl s 5) := by unfold Zce; rw [Zaf (by omega) (by omega)]; rfl
  rw [c1, c2, c3, c4]
  simp only [Option.bind_some, Zbd]
  have L3 : ∃ R, Za9 ((gl s 1).length + 1) (((gl s 1).length : Nat) : Int) 0 (V.agg [(V.int .i64 (gi s 0)), (V.sl 2 Zg 0 none), (V.sl 3 Zf 0 none), (V.int .i64 (gi s 3)), (V.sl 4 Zd 0 none), (V.sl 5 Ze 0 none)]) (V.agg [(V.int .i64 0), (V.sl 6 Zg 0 none), (V.sl 7 Zf 0 none), (V.int .i64 0), (V.sl 8 Zd 0 none), (V.sl 9 Ze 0 none)]) (gl s 1) (gl s 2) (gl s 4) (gl s 5) [] [] [] [] =
      some ((V.agg [(V.int .i64 (gi s 0)), (V.sl 2 Zg 0 none), (V.sl 3 Zf 0 none), (V.int .i64 (gi s 3)), (V.sl 4 Zd 0 none), (V.sl 5 Ze 0 none)]), (V.agg [(V.int .i64 0), (V.sl 6 Zg 0 none), (V.sl 7 Zf 0 none), (V.int .i64 0), (V.sl 8 Zd 0 none), (V.sl 9 Ze 0 none)]), R, gl s 2, gl s 4, gl s 5, [], [], [], []) ∧ SameL RowE R (gl s 1) ∧ (∀ r ∈ R, nrow r = r) := by
    refine Zdj (σ := List V) (F := fun m r i => Za9 m (((gl s 1).length : Nat) : Int) i (V.agg [(V.int .i64 (gi s 0)), (V.sl 2 Zg 0 none), (V.sl 3 Zf 0 none), (V.int .i64 (gi s 3)), (V.sl 4 Zd 0 none), (V.sl 5 Ze 0 none)]) (V.agg [(V.int .i64 0), (V.sl 6 Zg 0 none), (V.sl 7 Zf 0 none), (V.int .i64 0), (V.sl 8 Zd 0 none), (V.sl 9 Ze 0 none)]) r (gl s 2) (gl s 4) (gl s 5) [] [] [] []) (n := (gl s 1).length) (fun i r => SameL RowE r (gl s 1) ∧ ∀ j, j < i → nrow (rd r j) = rd r j) (fun o => ∃ R, o = some ((V.agg [(V.int .i64 (gi s 0)), (V.sl 2 Zg 0 none), (V.sl 3 Zf 0 none), (V.int .i64 (gi s 3)), (V.sl 4 Zd 0 none), (V.sl 5 Ze 0 none)]), (V.agg [(V.int .i64 0), (V.sl 6 Zg 0 none), (V.sl 7 Zf 0 none), (V.int .i64 0), (V.sl 8 Zd 0 none), (V.sl 9 Ze 0 none)]), R, gl s 2, gl s 4, gl s 5, [], [], [], []) ∧ SameL RowE R (gl s 1) ∧ (∀ r ∈ R, nrow r = r)) ?_ ?_ ⟨⟨rfl, fun j _ => ⟨rfl, rfl, rfl, rfl⟩⟩, fun j hj => absurd hj (Nat.not_lt_zero _)⟩
    · intro m i r hi hI0
      have hI := hI0.1
      obtain ⟨q1, q2, q3, q4⟩ := hI.2 i hi
      obtain ⟨k1, k2⟩ := hk i hi
      have hri : i < r.length := by rw [hI.1]; exact hi
      refine .inl ?_
      simp only [Za9, Zag hi, Zo hri, Int.toNat_natCast, Nat.zero_add, cond_true, List.length_set, Z8 hi (show (gl s 1).length ≤ 9223372036854775807 by omega), ZcK (show (gl (rd r i) 0).length ≤ 1000 by rw [q1]; exact k1), ZcK (show (gl (rd r i) 1).length ≤ 1000 by rw [q2]; exact k2), Option.bind_some]
      refine ⟨_, rfl, SameL.set (SameL.set (z := ZU (gl (rd r i) 0) (gl (rd r i) 1) (gi (rd r i) 2) (gi (rd r i) 3)) hI ⟨q1, q2, q3, q4⟩) ?_, fun j hj => ?_⟩
      · rw [Zbe hri]
        exact ⟨q1, q2, q3, q4⟩
      · by_cases hji : j = i
        · subst hji; rw [Zbe (by rw [List.length_set]; exact hri)]; rfl
        · rw [ZdM hji, ZdM hji]; exact hI0.2 j (by omega)
    · intro m r hI
      have hx : ∀ x ∈ r, nrow x = x := fun x hx => by
        obtain ⟨j, hj, e⟩ := List.getElem_of_mem hx
        have e : rd r j = x := by simp [rd, List.getD, hj, e]
        rw [← e]; exact hI.2 j (by have := hI.1.1; omega)
      refine ⟨r, ?_, hI.1, hx⟩
      simp only [Za9, Z3, cond_false]; rfl
  obtain ⟨R, e3, hR, hRn⟩ := L3
  rw [e3]
  simp only [Option.bind_some]
  have L8 : ∃ T, Zba ((gl s 2).length + 1) (((gl s 2).length : Nat) : Int) 0 (V.agg [(V.int .i64 (gi s 0)), (V.sl 3 Zg 0 none), (V.sl 2 Zf 0 none), (V.int .i64 (gi s 3)), (V.sl 4 Zd 0 none), (V.sl 5 Ze 0 none)]) (V.agg [(V.int .i64 0), (V.sl 6 Zg 0 none), (V.sl 7 Zf 0 none), (V.int .i64 0), (V.sl 8 Zd 0 none), (V.sl 9 Ze 0 none)]) (gl s 2) R (gl s 4) (gl s 5) [] [] [] [] =
      some ((V.agg [(V.int .i64 (gi s 0)), (V.sl 2 Zg 0 none), (V.sl 3 Zf 0 none), (V.int .i64 (gi s 3)), (V.sl 4 Zd 0 none), (V.sl 5 Ze 0 none)]), (V.agg [(V.int .i64 0), (V.sl 6 Zg 0 none), (V.sl 7 Zf 0 none), (V.int .i64 0), (V.sl 8 Zd 0 none), (V.sl 9 Ze 0 none)]), R, T, gl s 4, gl s 5, [], [], [], []) ∧ SameL TombE T (gl s 2) ∧ (∀ t ∈ T, Zjg t = t) := by
    refine Zdj (σ := List V) (F := fun m r i => Zba m (((gl s 2).length : Nat) : Int) i (V.agg [(V.int .i64 (gi s 0)), (V.sl 3 Zg 0 none), (V.sl 2 Zf 0 none), (V.int .i64 (gi s 3)), (V.sl 4 Zd 0 none), (V.sl 5 Ze 0 none)]) (V.agg [(V.int .i64 0), (V.sl 6 Zg 0 none), (V.sl 7 Zf 0 none), (V.int .i64 0), (V.sl 8 Zd 0 none), (V.sl 9 Ze 0 none)]) r R (gl s 4) (gl s 5) [] [] [] []) (n := (gl s 2).length) (fun i r => SameL TombE r (gl s 2) ∧ ∀ j, j < i → Zjg (rd r j) = rd r j) (fun o => ∃ T, o = some ((V.agg [(V.int .i64 (gi s 0)), (V.sl 2 Zg 0 none), (V.sl 3 Zf 0 none), (V.int .i64 (gi s 3)), (V.sl 4 Zd 0 none), (V.sl 5 Ze 0 none)]), (V.agg [(V.int .i64 0), (V.sl 6 Zg 0 none), (V.sl 7 Zf 0 none), (V.int .i64 0), (V.sl 8 Zd 0 none), (V.sl 9 Ze 0 none)]), R, T, gl s 4, gl s 5, [], [], [], []) ∧ SameL TombE T (gl s 2) ∧ (∀ t ∈ T, Zjg t = t)) ?_ ?_ ⟨⟨rfl, fun j _ => ⟨rfl, rfl⟩⟩, fun j hj => absurd hj (Nat.not_lt_zero _)⟩
    · intro m i r hi hI0
      have hI := hI0.1
      obtain ⟨q1, q2⟩ := hI.2 i hi
      have k1 := hk2 i hi
      have hri : i < r.length := by rw [hI.1]; exact hi
      refine .inl ?_
      simp only [Zba, Zag hi, Zo hri, Int.toNat_natCast, Nat.zero_add, cond_true, Z8 hi (show (gl s 2).length ≤ 9223372036854775807 by omega), ZcK (show (gl (rd r i) 0).length ≤ 1000 by rw [q1]; exact k1), Option.bind_some]
      refine ⟨_, rfl, hI.set ⟨q1, q2⟩, fun j hj => ?_⟩
      by_cases hji : j = i
      · subst hji; rw [Zbe hri]; rfl
      · rw [ZdM hji]; exact hI0.2 j (by omega)
    · intro m r hI
      have hx : ∀ x ∈ r, Zjg x = x := fun x hx => by
        obtain ⟨j, hj, e⟩ := List.getElem_of_mem hx
        have e : rd r j = x := by simp [rd, List.getD, hj, e]
        rw [← e]; exact hI.2 j (by have := hI.1.1; omega)
      refine ⟨r, ?_, hI.1, hx⟩
      simp only [Zba, Z3, cond_false]; rfl
  obtain ⟨T, e8, hT, hTn⟩ := L8
  refine ⟨R, T, ?_, hR, hT, hRn, hTn⟩
  refine Eq.trans (congrArg (fun o => Option.bind o _) (show _ = _ from e8)) ?_
  rfl
theorem SameL.asc {l l' : List V} (h : SameL RowE l l') (ha : AscN (fun r => gl r 0) l') : AscN (fun r => gl r 0) l := by
  intro i hi
  rw [h.1] at hi
  show nlt (gl (rd l i) 0) (gl (rd l (i + 1)) 0) = true
  rw [(h.2 i (by omega)).1, (h.2 (i + 1) hi).1]
  exact ha i hi
end Go.Eng.R
open Go Go.Eng
namespace Go.Eng.R
set_option maxRecDepth 100000
theorem ZlA {l : List V} {i : Nat} (hi : i < l.length) (hl : l.length ≤ 1000) : ZfC l (i : Int) (IntKind.i64.wrap ((i : Int) + 1)) = some (Zae l i) := by
  rw [Zap (by omega) (by omega)]
  unfold ZfC Zae
  rw [decide_eq_true (show (0 : Int) ≤ (i : Int) by omega), decide_eq_true (show (i : Int) ≤ (i : Int) + 1 by omega), decide_eq_true (show (i : Int) + 1 ≤ (l.length : Int) by omega), decide_eq_true (show l.length ≤ 9223372036854775807 by omega), show ((i : Int) + 1).toNat = i + 1 by omega, Int.toNat_natCast]
  rfl
theorem ZoK {b : Nat} {l : List V} {i : Nat} {x : V} (hi : i ≤ l.length) (hl : l.length ≤ 1000) (hb : b ≤ 64) : Zfh b l (i : Int) [x] = some (Z2 l i x) := by
  have hm : (l.length + 1) * b ≤ 140737488355328 := Nat.le_trans (Nat.mul_le_mul (show l.length + 1 ≤ 1001 by omega) hb) (by decide)
  unfold Zfh Z2
  rw [decide_eq_true (show (0 : Int) ≤ (i : Int) by omega), decide_eq_true (show (i : Int) ≤ (l.length : Int) by omega), ZhT hm (by omega), Int.toNat_natCast]
  rfl
theorem Zl0 {l : List V} {i : Nat} (h : i ≤ l.length) (x y : V) : (Z2 l i x).set i y = Z2 l i y := by
  unfold Z2
  have ht : (l.take i).length = i := by rw [List.length_take]; omega
  rw [List.append_assoc, List.append_assoc, List.set_append, if_neg (by omega), ht, Nat.sub_self]
  rfl
theorem ZhZ {l k : List V} (ha : AscN (fun r => gl r 0) l) : ZaT l k = lbN (fun r => gl r 0) l k := by
  have hle := Zhr (fun r => gl r 0) l k
  have hsp := ZgE ha k
  unfold ZaT
  cases hf : Zr (fun i => !nlt (gl (rd l i) 0) k) 0 l.length with
  | none =>
    show l.length = _
    rcases Nat.lt_or_ge (lbN (fun r => gl r 0) l k) l.length with c | c
    · have h1 : (!nlt (gl (rd l (lbN (fun r => gl r 0) l k)) 0) k) = false := firstI_none.1 hf _ (Nat.zero_le _) (by omega)
      have h2 := hsp _ c
      have h2 : nlt (gl (rd l (lbN (fun r => gl r 0) l k)) 0) k = decide (lbN (fun r => gl r 0) l k < lbN (fun r => gl r 0) l k) := h2
      rw [h2, decide_eq_false (Nat.lt_irrefl _)] at h1; cases h1
    · omega
  | some j =>
    obtain ⟨-, h1, h2, h3⟩ := ZX hf
    show j = _
    have h2 : (!nlt (gl (rd l j) 0) k) = true := h2
    have e2 : nlt (gl (rd l j) 0) k = decide (j < lbN (fun r => gl r 0) l k) := hsp j (by omega)
    rw [e2] at h2
    have h2 : ¬ j < lbN (fun r => gl r 0) l k := by simpa using h2
    rcases Nat.lt_or_ge (lbN (fun r => gl r 0) l k) j with c | c
    · have h4 : (!nlt (gl (rd l (lbN (fun r => gl r 0) l k)) 0) k) = false := h3 _ (Nat.zero_le _) c
      have e4 : nlt (gl (rd l (lbN (fun r => gl r 0) l k)) 0) k = decide (lbN (fun r => gl r 0) l k < lbN (fun r => gl r 0) l k) := hsp _ (by omega)
      rw [e4, decide_eq_false (Nat.lt_irrefl _)] at h4; cases h4
    · omega
theorem ZgI {l k : List V} (ha : AscN (fun r => gl r 0) l) : Zr (fun i => neq (gl (rd l i) 0) k) 0 l.length = bif Zcv (fun r => gl r 0) l k then some (lbN (fun r => gl r 0) l k) else none := Zna ha k
theorem Zjh {nm : V → List V} {l t : List V} (h : Zcv nm l t = true) : lbN nm l t < l.length := by
  unfold Zcv at h
  rw [Bool.and_eq_true] at h
  exact of_decide_eq_true h.1
theorem ZjK {s : SD} {key val : List V} (ha : AscN (fun r => gl r 0) s.rows) (hr : s.rows.length ≤ 20) (ht : s.tombs.length ≤ 1000) (hk : key.length ≤ 1000) (hv : val.length ≤ 1000) :
    Z4 s.v key val = some ((s.put key val).1, (s.put key val).2.v) := by
  have hle := Zhr (fun r => gl r 0) s.rows key
  unfold Z4 SD.put
  rw [ZfR (s := s.v) (show s.rows.length ≤ 4194304 by omega) ha key, ZgI ha, ZhZ ha]
  simp only [show gl s.v 1 = s.rows from rfl, show gl s.v 2 = s.tombs from rfl, show gl s.v 4 = s.sess from rfl, show gl s.v 5 = s.lasts from rfl, Option.bind_some, ZcK hk, ZcK hv]
  cases hh : Zcv (fun r => gl r 0) s.rows key with
  | true =>
    have hlt := Zjh hh
    simp only [Bool.not_true, cond_false, cond_true, Int.toNat_natCast, Nat.zero_add, List.length_set, Zo hlt, Zbe hlt, List.set_set]
    rfl
  | false =>
    simp only [Bool.not_false, cond_true, cond_false]
    by_cases h20 : 20 ≤ s.rows.length
    · rw [decide_eq_true h20, decide_eq_true (show (((s.rows.length : Nat) : Int) = 20) by omega)]; rfl
    rw [decide_eq_false h20, decide_eq_false (show ¬ (((s.rows.length : Nat) : Int) = 20) by omega)]
    simp only [cond_false]
    rw [ZoK hle (by omega) (Nat.le_refl _)]
    simp only [Option.bind_some]
    have hl' := ZcS (x := ZU key [] 0 0) hle
    have hlt : lbN (fun r => gl r 0) s.rows key < (Z2 s.rows (lbN (fun r => gl r 0) s.rows key) (ZU key [] 0 0)).length := by omega
    have hl2 : lbN (fun r => gl r 0) s.rows key < s.rows.length + 1 := by omega
    have et : ZbJ (V.agg [(V.int .i64 (gi s.v 0)), (V.inl Zg (Z2 s.rows (lbN (fun r => gl r 0) s.rows key) (V.agg [(V.inl Zc key), (V.inl Zc []), (V.int .i64 0), (V.int .i64 0)]))), (V.inl Zf s.tombs), (V.int .i64 (gi s.v 3)), (V.inl Zd s.sess), (V.inl Ze s.lasts)]) key = some (fK s.tombs key) :=
      ZgG (s := V.agg [(V.int .i64 (gi s.v 0)), (V.inl Zg (Z2 s.rows (lbN (fun r => gl r 0) s.rows key) (V.agg [(V.inl Zc key), (V.inl Zc []), (V.int .i64 0), (V.int .i64 0)]))), (V.inl Zf s.tombs), (V.int .i64 (gi s.v 3)), (V.inl Zd s.sess), (V.inl Ze s.lasts)]) (show s.tombs.length ≤ 9223372036854775807 by omega) key
    rw [et]
    simp only [Option.bind_some]
    unfold ZU at hlt
    cases hft : Zr (fun i => neq (gl (rd s.tombs i) 0) key) 0 s.tombs.length with
    | none =>
      rw [Ze1 hft, show decide ((0 : Int) ≤ -1) = false from rfl]
      simp only [cond_false, Int.toNat_natCast, Nat.zero_add, List.length_set, Zo hlt, cond_true, Zbe hlt, List.set_set, Zje hle, Zl0 hle, ZcS hle, Zo hl2]
      rfl
    | some j =>
      have hj := ZbL hft
      rw [ZdN hft, decide_eq_true (show (0 : Int) ≤ (j : Int) by omega)]
      simp only [cond_true, ZlA hj ht, Option.bind_some, Int.toNat_natCast, Nat.zero_add, List.length_set, Zo hlt, Zbe hlt, List.set_set, Zje hle, Zl0 hle, ZcS hle, Zo hl2]
      rfl
theorem Zht {s : SD} {i : Nat} (hi : i < s.rows.length) (hr : s.rows.length ≤ 1000) (ht : s.tombs.length ≤ 10) : Zcg s.v (i : Int) = some (s.bury i).v := by
  unfold Zcg
  simp only [show gl s.v 1 = s.rows from rfl, show gl s.v 2 = s.tombs from rfl, show gl s.v 4 = s.sess from rfl, show gl s.v 5 = s.lasts from rfl, show gi s.v 0 = s.idx from rfl, show gi s.v 3 = s.lost from rfl, Zo hi, Int.toNat_natCast, Nat.zero_add, cond_true, ZlA hi hr, Option.bind_some]
  rw [Zaf (by omega) (by omega)]
  simp only [cond_true]
  have hl : (s.tombs ++ [V.agg [V.inl Zc (gl (rd s.rows i) 0), V.int .i64 s.idx]]).length = s.tombs.length + 1 := by rw [List.length_append, List.length_singleton]
  rw [hl]
  unfold SD.bury
  by_cases h10 : 10 < s.tombs.length + 1
  · rw [decide_eq_true h10, show (((s.tombs.length + 1 : Nat) : Int) - 10).toNat + 1 = 2 by omega]
    have e2 : Zai 2 (s.b 1 2 3 4) (Zae s.rows i) (s.tombs ++ [V.agg [V.inl Zc (gl (rd s.rows i) 0), V.int .i64 s.idx]]) s.sess s.lasts =
        some (V.agg [(V.int .i64 s.idx), (V.sl 1 Zg 0 none), (V.sl 2 Zf 0 none), (V.int .i64 (gi (rd (s.tombs ++ [V.agg [V.inl Zc (gl (rd s.rows i) 0), V.int .i64 s.idx]]) 0) 1)), (V.sl 3 Zd 0 none), (V.sl 4 Ze 0 none)], Zae s.rows i, (s.tombs ++ [V.agg [V.inl Zc (gl (rd s.rows i) 0), V.int .i64 s.idx]]).drop 1, s.sess, s.lasts) := by
      have ed : ZfC (s.tombs ++ [V.agg [V.inl Zc (gl (rd s.rows i) 0), V.int .i64 s.idx]]) 0 1 = some ((s.tombs ++ [V.agg [V.inl Zc (gl (rd s.rows i) 0), V.int .i64 s.idx]]).drop 1) := by
        unfold ZfC
        rw [hl, decide_eq_true (show (1 : Int) ≤ ((s.tombs.length + 1 : Nat) : Int) by omega), decide_eq_true (show s.tombs.length + 1 ≤ 9223372036854775807 by omega)]; rfl
      rw [Zai, hl, decide_eq_true (show (10 : Int) < ((s.tombs.length + 1 : Nat) : Int) by omega), show Zm 0 (s.tombs.length + 1) = true from Zo (i := 0) (by omega), ed]
      simp only [cond_true, Option.bind_some]
      rw [Zai, List.length_drop, hl, decide_eq_false (show ¬ (10 : Int) < ((s.tombs.length + 1 - 1 : Nat) : Int) by omega)]
      rfl
    refine Eq.trans (congrArg (fun o => Option.bind o _) (show _ = _ from e2)) ?_
    rfl
  · rw [decide_eq_false h10, show (((s.tombs.length + 1 : Nat) : Int) - 10).toNat + 1 = 1 by omega]
    have e2 : Zai 1 (s.b 1 2 3 4) (Zae s.rows i) (s.tombs ++ [V.agg [V.inl Zc (gl (rd s.rows i) 0), V.int .i64 s.idx]]) s.sess s.lasts =
        some (s.b 1 2 3 4, Zae s.rows i, s.tombs ++ [V.agg [V.inl Zc (gl (rd s.rows i) 0), V.int .i64 s.idx]], s.sess, s.lasts) := by
      rw [Zai, hl, decide_eq_false (show ¬ (10 : Int) < ((s.tombs.length + 1 : Nat) : Int) by omega)]; rfl
    refine Eq.trans (congrArg (fun o => Option.bind o _) (show _ = _ from e2)) ?_
    rfl
theorem Zh0 {s : SD} {i : Nat} (hi : i < s.rows.length) (ht : s.tombs.length ≤ 10) : (s.bury i).rows.length = s.rows.length - 1 ∧ (s.bury i).tombs.length ≤ 10 := by
  unfold SD.bury
  by_cases h : 10 < s.tombs.length + 1
  · rw [decide_eq_true h]
    exact ⟨Zcz hi, by show ((s.tombs ++ [_]).drop 1).length ≤ 10; rw [List.length_drop, List.length_append, List.length_singleton]; omega⟩
  · rw [decide_eq_false h]
    exact ⟨Zcz hi, by show (s.tombs ++ [_]).length ≤ 10; rw [List.length_append, List.length_singleton]; omega⟩
theorem ZeL {id : Int} {del : Bool} : ∀ (n k : Nat) (s : SD), k ≤ s.rows.length → s.rows.length - k ≤ n → s.rows.length ≤ 1000 → s.tombs.length ≤ 10 → ∀ m, s.rows.length - k < m →
    Zak m id del (k : Int) (s.b 1 2 3 4) s.rows s.tombs s.sess s.lasts = some ((SD.shutL id del n k s).b 1 2 3 4, (SD.shutL id del n k s).rows, (SD.shutL id del n k s).tombs, (SD.shutL id del n k s).sess, (SD.shutL id del n k s).lasts)
  | n, k, s, hk, hn, hb, ht, 0, hm => by omega
  | 0, k, s, hk, hn, hb, ht, m + 1, hm => by
    obtain rfl : k = s.rows.length := by omega
    rw [Zak, Z3]; rfl
  | n + 1, k, s, hk, hn, hb, ht, m + 1, hm => by
    by_cases h : k < s.rows.length
    case neg =>
      obtain rfl : k = s.rows.length := by omega
      rw [Zak, Z3, SD.shutL, decide_eq_false h]; rfl
    rw [Zak, SD.shutL, decide_eq_true h]
    simp only [Zag h, Zo h, Nat.zero_add, Int.toNat_natCast, cond_true, Z8 h (show s.rows.length ≤ 9223372036854775807 by omega)]
    by_cases hh : gi (rd s.rows k) 3 = id
    case neg =>
      rw [decide_eq_false hh]
      exact ZeL n (k + 1) s (by omega) (by omega) hb ht m (by omega)
    rw [decide_eq_true hh]
    cases del with
    | true =>
      obtain ⟨l1, l2⟩ := Zh0 h ht
      simp only [Bool.not_true, cond_false, cond_true]
      refine Eq.trans (congrArg (fun o => Option.bind o _) (show _ = _ from Zht h hb ht)) ?_
      have e1 : IntKind.i64.wrap (IntKind.i64.wrap ((k : Int) - 1) + 1) = (k : Int) := by rw [Zap (n := (k : Int) - 1) (by omega) (by omega), Zap (by omega) (by omega)]; omega
      rw [e1]
      exact ZeL n k (s.bury k) (by omega) (by omega) (by omega) l2 m (by omega)
    | false =>
      simp only [Bool.not_true, cond_false, List.length_set, Zo h, cond_true, Zbe h, List.set_set]
      exact ZeL n (k + 1) { s with rows := s.rows.set k (ZU (gl (rd s.rows k) 0) (gl (rd s.rows k) 1) s.idx 0) } (by show k + 1 ≤ (s.rows.set k _).length; rw [List.length_set]; omega) (by show (s.rows.set k _).length - (k + 1) ≤ n; rw [List.length_set]; omega) (by show (s.rows.set k _).length ≤ 1000; rw [List.length_set]; exact hb) ht m (by show (s.rows.set k _).length - (k + 1) < m; rw [List.length_set]; omega)
theorem Znv {s : SD} {id : Int} (hr : s.rows.length ≤ 1000) (ht : s.tombs.length ≤ 10) (hs : s.sess.length ≤ 1000) : ZcR s.v id = (match s.sessAt id with | some i => some (0, (s.shut i).v) | none => some (1, s.v)) := by
  unfold ZcR SD.sessAt
  rw [Zfo (s := s.v) (show s.sess.length ≤ 9223372036854775807 by omega) id]
  simp only [Option.bind_some, show gl s.v 4 = s.sess from rfl]
  cases hf : Zr (fun i => decide (gi (rd s.sess i) 0 = id)) 0 s.sess.length with
  | none => rw [Zgl hf]; rfl
  | some j =>
    obtain ⟨-, h1, h2, -⟩ := ZX hf
    have hj : j < s.sess.length := by omega
    have h2 : gi (rd s.sess j) 0 = id := of_decide_eq_true h2
    rw [Zgk hf, decide_eq_false (show ¬ (j : Int) < 0 by omega)]
    simp only [cond_false, Zo hj, cond_true, ZlA hj hs, Option.bind_some, Int.toNat_natCast, Nat.zero_add, show gl s.v 1 = s.rows from rfl, show gl s.v 2 = s.tombs from rfl, show gl s.v 5 = s.lasts from rfl, Zbd]
    subst h2
    refine Eq.trans (congrArg (fun o => Option.bind o _) (show _ = _ from ZeL (id := gi (rd s.sess j) 0) (del := gb (rd s.sess j) 1) s.rows.length 0 { s with sess := Zae s.sess j } (Nat.zero_le _) (by show s.rows.length - 0 ≤ _; omega) hr ht (s.rows.length + 1) (by show s.rows.length - 0 < _; omega))) ?_
    rfl
end Go.Eng.R
open Go Go.Eng
namespace Go.Eng.R
set_option maxRecDepth 100000
theorem ZgY {q : Nat → Bool} {n j : Nat} (hj : j < n) (h1 : q j = true) (h0 : ∀ t, t < j → q t = false) : Zr q 0 n = some j := by
  cases hf : Zr q 0 n with
  | none => have := firstI_none.1 hf j (Nat.zero_le _) (by omega); rw [h1] at this; cases this
  | some i =>
    obtain ⟨-, h2, h3, h4⟩ := ZX hf
    rcases Nat.lt_trichotomy i j with c | c | c
    · rw [h0 i c] at h3; cases h3
    · rw [c]
    · have := h4 j (Nat.zero_le _) c; rw [h1] at this; cases this
theorem ZlB {l : List V} {i t : Nat} {x : V} (hi : i ≤ l.length) (h : t < i) : rd (Z2 l i x) t = rd l t := by
  unfold Z2 rd
  have ht : (l.take i).length = i := by rw [List.length_take]; omega
  simp only [List.getD]
  rw [List.append_assoc, List.getElem?_append_left (by omega), List.getElem?_take, if_pos h]
theorem put_at {s : SD} {key val : List V} (ha : AscN (fun r => gl r 0) s.rows) (h : (s.put key val).1 = true) :
    Zr (fun i => neq (gl (rd (s.put key val).2.rows i) 0) key) 0 (s.put key val).2.rows.length = some (lbN (fun r => gl r 0) s.rows key) ∧ lbN (fun r => gl r 0) s.rows key < (s.put key val).2.rows.length := by
  have hle := Zhr (fun r => gl r 0) s.rows key
  have hf := ZgI (k := key) ha
  revert h
  unfold SD.put
  rw [hf]
  cases hh : Zcv (fun r => gl r 0) s.rows key with
  | true =>
    intro _
    have hlt := Zjh hh
    rw [hh] at hf
    obtain ⟨-, h1, h2, h3⟩ := ZX hf
    have hl : (s.rows.set (lbN (fun r => gl r 0) s.rows key) (ZU (gl (rd s.rows (lbN (fun r => gl r 0) s.rows key)) 0) val s.idx (gi (rd s.rows (lbN (fun r => gl r 0) s.rows key)) 3))).length = s.rows.length := List.length_set
    refine ⟨ZgY (by rw [← hl] at hlt; exact hlt) ?_ fun t ht => ?_, by rw [← hl] at hlt; exact hlt⟩
    · show neq (gl (rd (s.rows.set _ _) _) 0) key = true
      rw [Zbe hlt]; exact h2
    · show neq (gl (rd (s.rows.set _ _) _) 0) key = false
      rw [ZdM (by omega)]; exact h3 t (Nat.zero_le _) ht
  | false =>
    simp only [cond_false]
    by_cases h20 : 20 ≤ s.rows.length
    · rw [dT h20]; intro h; cases h
    rw [dF h20]
    intro _
    rw [ZhZ ha]
    have hl := ZcS (x := ZU key val s.idx 0) hle
    have hlt : lbN (fun r => gl r 0) s.rows key < (Z2 s.rows (lbN (fun r => gl r 0) s.rows key) (ZU key val s.idx 0)).length := by omega
    refine ⟨ZgY hlt ?_ fun t ht => ?_, hlt⟩
    · show neq (gl (rd (Z2 _ _ _) _) 0) key = true
      rw [Zje hle]; exact Zea key
    · show neq (gl (rd (Z2 _ _ _) _) 0) key = false
      rw [ZlB hle ht]
      have := ZgE ha key t (by omega)
      rw [decide_eq_true ht] at this
      exact Zi7 this
def opK (k : Int) : Prop := k = 1 ∨ k = 2 ∨ k = 3 ∨ k = 6 ∨ k = 7
theorem iputP {s : SD} {key val : List V} (ha : AscN (fun r => gl r 0) s.rows) (hr : s.rows.length ≤ 20) (ht : s.tombs.length ≤ 1000) (hk : key.length ≤ 1000) (hv : val.length ≤ 1000) :
    (Option.bind (Z4 (Za s.v) key val) fun r => bif (!r.1) then some ((4 : Int), (Za r.2)) else some (0, (Za r.2))) = some ((s.puts key val).1, (s.puts key val).2.v) := by
  refine Eq.trans (congrArg (fun o => Option.bind o _) (show _ = _ from ZjK ha hr ht hk hv)) ?_
  unfold SD.puts ZdB
  cases (s.put key val).1 <;> rfl
theorem itakeP {s : SD} {key val : List V} {n : Int} (ha : AscN (fun r => gl r 0) s.rows) (hr : s.rows.length ≤ 20) (ht : s.tombs.length ≤ 1000) (hk : key.length ≤ 1000) (hv : val.length ≤ 1000) :
    (Option.bind (Z4 (Za s.v) key val) fun r => bif (!r.1) then some ((4 : Int), (Za r.2)) else
      bif (Zm (((lbN (fun r => gl r 0) s.rows key : Nat) : Int)) ((gl r.2 1).length)) then some (0, (V.agg [(V.int .i64 (gi r.2 0)), (V.inl Zg ((gl r.2 1).set (lbN (fun r => gl r 0) s.rows key) (V.agg [(V.inl Zc (gl (rd (gl r.2 1) (lbN (fun r => gl r 0) s.rows key)) 0)), (V.inl Zc (gl (rd (gl r.2 1) (lbN (fun r => gl r 0) s.rows key)) 1)), (V.int .i64 (gi (rd (gl r.2 1) (lbN (fun r => gl r 0) s.rows key)) 2)), (V.int .i64 n)]))), (V.inl Zf (gl r.2 2)), (V.int .i64 (gi r.2 3)), (V.inl Zd (gl r.2 4)), (V.inl Ze (gl r.2 5))])) else none) =
    some ((bif (s.put key val).1 then ((0 : Int), (s.put key val).2.hold key n) else (4, (s.put key val).2)).1, (bif (s.put key val).1 then ((0 : Int), (s.put key val).2.hold key n) else (4, (s.put key val).2)).2.v) := by
  refine Eq.trans (congrArg (fun o => Option.bind o _) (show _ = _ from ZjK ha hr ht hk hv)) ?_
  have hp := put_at (s := s) (key := key) (val := val) ha
  revert hp
  generalize s.put key val = q
  obtain ⟨b, q⟩ := q
  intro hp
  cases b with
  | false => rfl
  | true =>
    obtain ⟨hf, hj⟩ := hp rfl
    simp only [Option.bind_some, Bool.not_true, cond_false, cond_true, show gl q.v 1 = q.rows from rfl]
    rw [Zo hj]
    unfold SD.hold
    rw [show Zr (fun i => neq (gl (rd q.rows i) 0) key) 0 q.rows.length = some (lbN (fun r => gl r 0) s.rows key) from hf]
    rfl
theorem Zpl {s : SD} {o : V} (ha : AscN (fun r => gl r 0) s.rows) (hr : s.rows.length ≤ 20) (ht : s.tombs.length ≤ 10) (hs : s.sess.length ≤ 8) (hk : (gl o 1).length ≤ 1000) (hv : (gl o 2).length ≤ 1000) (hk0 : opK (gi o 0) → 0 < (gl o 1).length) :
    ZbO s.v o = some ((s.do' (gi o 0) (gl o 1) (gl o 2) (gi o 3)).1, (s.do' (gi o 0) (gl o 1) (gl o 2) (gi o 3)).2.v) := by
  have er : Zbz (Za s.v) (gl o 1) = some (((lbN (fun r => gl r 0) s.rows (gl o 1) : Nat) : Int), Zcv (fun r => gl r 0) s.rows (gl o 1)) := ZfR (s := s.v) (show s.rows.length ≤ 4194304 by omega) ha _
  have es : Zbk (Za s.v) (gi o 3) = some (fI s.sess (gi o 3)) := Zfo (s := s.v) (show s.sess.length ≤ 9223372036854775807 by omega) _
  have eh : ZcR (Za s.v) (gi o 3) = _ := Znv (s := s) (id := gi o 3) (by omega) ht (by omega)
  have pp := iputP (s := s) (key := gl o 1) (val := gl o 2) ha hr (by omega) hk hv
  have tp := itakeP (s := s) (key := gl o 1) (val := gl o 2) (n := gi o 3) ha hr (by omega) hk hv
  have hlk : opK (gi o 0) → s.look (gl o 1) = bif Zcv (fun r => gl r 0) s.rows (gl o 1) then some (lbN (fun r => gl r 0) s.rows (gl o 1)) else none := fun h => by
    unfold SD.look; rw [dT (hk0 h), cond_true]; exact ZgI ha
  have hlt := Zjh (nm := fun r => gl r 0) (l := s.rows) (t := gl o 1)
  unfold ZbO SD.do'
  simp only [er, es, eh, Option.bind_some, show gl s.v 1 = s.rows from rfl, show gl s.v 2 = s.tombs from rfl, show gl s.v 4 = s.sess from rfl, show gl s.v 5 = s.lasts from rfl, show gi s.v 0 = s.idx from rfl, show gi s.v 3 = s.lost from rfl, Int.toNat_natCast, Nat.zero_add]
  clear er es eh hk0 hk hv
  generalize gl o 1 = key at *
  generalize gl o 2 = val at *
  generalize gi o 3 = n at *
  generalize gi o 0 = k at *
  by_cases h1 : k = 1
  · rw [dT h1]
    simp only [cond_true]
    rw [dF (show ¬ k = 2 by omega)]
    cases hh : Zcv (fun r => gl r 0) s.rows key with
    | false => exact pp
    | true => rw [Zo (hlt hh)]; exact pp
  rw [dF h1]
  by_cases h2 : k = 2
  · rw [dT h2, hlk (.inr (.inl h2))]
    simp only [cond_false, cond_true]
    cases hh : Zcv (fun r => gl r 0) s.rows key with
    | false =>
      simp only [cond_false]
      by_cases hn : (0 : Int) = n
      · rw [dT hn]; exact pp
      · rw [dF hn]; rfl
    | true =>
      rw [Zo (hlt hh)]
      simp only [cond_true]
      by_cases hn : gi (rd s.rows (lbN (fun r => gl r 0) s.rows key)) 2 = n
      · rw [dT hn]; exact pp
      · rw [dF hn]; rfl
  rw [dF h2]
  by_cases h3 : k = 3
  · rw [dT h3, hlk (.inr (.inr (.inl h3)))]
    simp only [cond_false, cond_true]
    cases hh : Zcv (fun r => gl r 0) s.rows key with
    | false => rfl
    | true =>
      simp only [Bool.not_true, cond_false, cond_true]
      refine Eq.trans (congrArg (fun o => Option.bind o _) (show _ = _ from Zht (s := s) (hlt hh) (by omega) ht)) ?_
      rfl
  rw [dF h3]
  by_cases h4 : k = 4
  · rw [dT h4]
    simp only [cond_false, cond_true]
    by_cases h8 : 8 ≤ s.sess.length
    · rw [dT h8, dT (show (((s.sess.length : Nat) : Int) = 8) by omega)]; rfl
    · rw [dF h8, dF (show ¬ (((s.sess.length : Nat) : Int) = 8) by omega), Zaf (by omega) (by omega)]; rfl
  rw [dF h4]
  by_cases h5 : k = 5
  · rw [dT h5]
    simp only [cond_false, cond_true]
    cases hf : s.sessAt n with
    | none => rfl
    | some j => rfl
  rw [dF h5]
  by_cases h6 : k = 6
  · rw [dT h6, hlk (.inr (.inr (.inr (.inl h6))))]
    simp only [cond_false, cond_true]
    unfold SD.sessAt
    cases hf : Zr (fun i => decide (gi (rd s.sess i) 0 = n)) 0 s.sess.length with
    | none => rw [Zgl hf]; rfl
    | some j =>
      rw [Zgk hf, dF (show ¬ (j : Int) < 0 by omega)]
      simp only [cond_false]
      cases hh : Zcv (fun r => gl r 0) s.rows key with
      | false => exact tp
      | true =>
        rw [Zo (hlt hh)]
        simp only [cond_true]
        by_cases hz : gi (rd s.rows (lbN (fun r => gl r 0) s.rows key)) 3 = 0
        · rw [dT hz]; exact tp
        rw [dF hz]
        by_cases hn : gi (rd s.rows (lbN (fun r => gl r 0) s.rows key)) 3 = n
        · rw [dT hn]; exact tp
        · rw [dF hn]; rfl
  rw [dF h6]
  by_cases h7 : k = 7
  · rw [dT h7, hlk (.inr (.inr (.inr (.inr h7))))]
    simp only [cond_false, cond_true]
    cases hh : Zcv (fun r => gl r 0) s.rows key with
    | false => rfl
    | true =>
      have hj := hlt hh
      rw [Zo hj]
      simp only [Bool.not_true, cond_true, cond_false, List.length_set, Zo hj, Zbe hj, List.set_set]
      by_cases hn : gi (rd s.rows (lbN (fun r => gl r 0) s.rows key)) 3 = n
      · rw [dT hn]; rfl
      · rw [dF hn]; rfl
  rw [dF h7]
  rfl
theorem Zlj {l : List V} {c : Int} (ha : AscI l) : ZbA l c = lbI l c := by
  have hle := Zli l c
  have hsp := ZfG ha c
  unfold ZbA
  cases hf : Zr (fun i => !decide (gi (rd l i) 0 < c)) 0 l.length with
  | none =>
    show l.length = _
    rcases Nat.lt_or_ge (lbI l c) l.length with h | h
    · have h1 : (!decide (gi (rd l (lbI l c)) 0 < c)) = false := firstI_none.1 hf _ (Nat.zero_le _) (by omega)
      rw [hsp _ h, decide_eq_false (Nat.lt_irrefl _)] at h1; cases h1
    · omega
  | some j =>
    obtain ⟨-, h1, h2, h3⟩ := ZX hf
    show j = _
    have h2 : (!decide (gi (rd l j) 0 < c)) = true := h2
    rw [hsp j (by omega)] at h2
    have h2 : ¬ j < lbI l c := by simpa using h2
    rcases Nat.lt_or_ge (lbI l c) j with h | h
    · have h4 : (!decide (gi (rd l (lbI l c)) 0 < c)) = false := h3 _ (Nat.zero_le _) h
      rw [hsp _ (by omega), decide_eq_false (Nat.lt_irrefl _)] at h4; cases h4
    · omega
theorem Zmt {s : SD} {c : V} (ha : AscN (fun r => gl r 0) s.rows) (hr : s.rows.length ≤ 20) (ht : s.tombs.length ≤ 10) (hs : s.sess.length ≤ 8) (hl : s.lasts.length ≤ 1000) (hla : AscI s.lasts) (hlb : ∀ i, i < s.lasts.length → 0 ≤ gi (rd s.lasts i) 0 ∧ gi (rd s.lasts i) 0 ≤ 3) (hi0 : 0 ≤ s.idx) (hi1 : s.idx ≤ 1000000)
    (hk : (gl c 3).length ≤ 1000) (hv : (gl c 4).length ≤ 1000) (hk0 : opK (gi c 2) → 0 < (gl c 3).length) (hc : gi c 0 < 0 ∨ (0 ≤ gi c 0 ∧ gi c 0 ≤ 3)) :
    Zds s.v (Zn c) = some ((V.agg [(V.int .i64 (s.apply c).1.1), (V.int .i64 (s.apply c).1.2)]), (s.apply c).2.v) := by
  have ew : IntKind.i64.wrap (s.idx + 1) = s.idx + 1 := Zap (by omega) (by omega)
  unfold Zds SD.apply
  simp only [show gi (Zn c) 0 = gi c 0 from rfl, show gi (Zn c) 1 = gi c 1 from rfl, show gi (Zn c) 2 = gi c 2 from rfl, show gl (Zn c) 3 = gl c 3 from rfl, show gl (Zn c) 4 = gl c 4 from rfl, show gi (Zn c) 5 = gi c 5 from rfl, show gl s.v 1 = s.rows from rfl, show gl s.v 2 = s.tombs from rfl, show gl s.v 4 = s.sess from rfl, show gl s.v 5 = s.lasts from rfl, show gi s.v 0 = s.idx from rfl, show gi s.v 3 = s.lost from rfl, ew]
  by_cases h0 : gi c 0 < 0
  · rw [dT h0]; rfl
  rw [dF h0]
  have hc' : 0 ≤ gi c 0 ∧ gi c 0 ≤ 3 := by omega
  have el : ZdU (V.agg [(V.int .i64 (s.idx + 1)), (V.inl Zg s.rows), (V.inl Zf s.tombs), (V.int .i64 s.lost), (V.inl Zd s.sess), (V.inl Ze s.lasts)]) (gi c 0) = some (((lbI s.lasts (gi c 0) : Nat) : Int), ZgH s.lasts (gi c 0)) := by
    unfold ZdU
    show Option.bind (ZaX s.lasts (gi c 0)) _ = _
    rw [bsI_eq (by omega) hla hlb hc']; rfl
  rw [el]
  have ed := Zpl (s := s.up) (o := V.agg [(V.int .i64 (gi c 2)), (V.inl Zc (gl c 3)), (V.inl Zc (gl c 4)), (V.int .i64 (gi c 5))]) ha hr ht hs hk hv hk0
  have ed' : ZbO (V.agg [(V.int .i64 (s.idx + 1)), (V.inl Zg s.rows), (V.inl Zf s.tombs), (V.int .i64 s.lost), (V.inl Zd s.sess), (V.inl Ze s.lasts)]) (V.agg [(V.int .i64 (gi c 2)), (V.inl Zc (gl c 3)), (V.inl Zc (gl c 4)), (V.int .i64 (gi c 5))]) = some ((s.up.do' (gi c 2) (gl c 3) (gl c 4) (gi c 5)).1, (s.up.do' (gi c 2) (gl c 3) (gl c 4) (gi c 5)).2.v) := ed
  have hdl : (s.up.do' (gi c 2) (gl c 3) (gl c 4) (gi c 5)).2.lasts = s.lasts := ZjX s.up _ _ _ _
  rw [Zlj hla]
  clear ed el
  generalize s.up.do' (gi c 2) (gl c 3) (gl c 4) (gi c 5) = q at *
  obtain ⟨qc, q⟩ := q
  have hdl : q.lasts = s.lasts := hdl
  simp only [Option.bind_some, cond_false, ed']
  have hle := Zli s.lasts (gi c 0)
  have ehas : (decide (lbI s.lasts (gi c 0) < s.lasts.length) && decide (gi (rd s.lasts (lbI s.lasts (gi c 0))) 0 = gi c 0)) = ZgH s.lasts (gi c 0) := rfl
  rw [ehas]
  cases hh : ZgH s.lasts (gi c 0) with
  | true =>
    have hh' := hh
    unfold ZgH at hh'
    rw [Bool.and_eq_true] at hh'
    have hlt : lbI s.lasts (gi c 0) < s.lasts.length := of_decide_eq_true hh'.1
    have he : gi (rd s.lasts (lbI s.lasts (gi c 0))) 0 = gi c 0 := of_decide_eq_true hh'.2
    simp only [cond_true, Zo hlt, Int.toNat_natCast, Nat.zero_add, show gl q.v 5 = q.lasts from rfl, hdl, he]
    cases decide (gi (rd s.lasts (lbI s.lasts (gi c 0))) 1 = gi c 1) with
    | true => rfl
    | false =>
      simp only [cond_false]
      cases decide (gi c 1 < gi (rd s.lasts (lbI s.lasts (gi c 0))) 1) with
      | true => rfl
      | false => rfl
  | false =>
    simp only [cond_false, show gl q.v 5 = q.lasts from rfl, hdl]
    rw [ZoK hle hl (by decide)]
    rfl
end Go.Eng.R
open Go Go.Eng
namespace Go.Eng.R
set_option maxRecDepth 100000
def BL (l : List V) : Prop := LW ZS l ∧ l.length ≤ 40
theorem BS.bl {l : List V} (h : BS l) : BL l := ⟨h.1, by have := h.2; omega⟩
theorem BL.nil : BL [] := BS.nil.bl
def B_Op (x : V) : Prop := I64 (gi x 0) ∧ BL (gl x 1) ∧ BL (gl x 2) ∧ I64 (gi x 3)
def B_Cmd (x : V) : Prop := I64 (gi x 0) ∧ I64 (gi x 1) ∧ I64 (gi x 2) ∧ BL (gl x 3) ∧ BL (gl x 4) ∧ I64 (gi x 5)
theorem smallI {n : Int} (h0 : -4294967296 ≤ n) (h1 : n ≤ 4294967296) : I64 n := ⟨by omega, by omega⟩
theorem bentOp_O {c : V} (h : ZL c) : Ok2 (fun x c => ZL c ∧ B_Op x) (ZeE (Zb c)) := by
  unfold ZeE
  refine .of ?_
  refine Ok.bind2 (op_K h 6) ?_
  rintro o c1 ⟨h1, hk, hv, hi, hn⟩
  have hk' : BL (gl o 1) := by
    rcases hk with hk | ⟨hk, -⟩
    · exact (Zjf hk).bl
    · rw [hk]; exact BL.nil
  have hks : (gl o 1).length ≤ 20 := by
    rcases hk with hk | ⟨hk, -⟩
    · exact (Zjf hk).2
    · rw [hk]; exact Nat.zero_le _
  refine Ok.bind2 (Zfr h1 6) ?_
  rintro b c2 h2
  cases b with
  | false => exact ⟨_, rfl, h2, hi, hk', hv.bl, hn⟩
  | true =>
  simp only [cond_true]
  refine Ok.bind2 (ZbM h2 4) ?_
  rintro k c3 ⟨h3, -, -, -⟩
  refine .ite (fun _ => ?_) (fun _ => .ite (fun _ => ?_) (fun _ => .ite (fun _ => ?_) (fun _ => ?_)))
  · refine Ok.bind2 (Zf0 h3 (by decide) ⟨⟨by decide, by decide⟩, ⟨by decide, by decide⟩, ⟨by decide, by decide⟩, ⟨by decide, by decide⟩, trivial⟩) ?_
    rintro x c4 ⟨h4, hx⟩
    exact ⟨_, rfl, h4, hx, hk', hv.bl, hn⟩
  · refine .chk (Zaf (by omega) (by omega)) ⟨_, rfl, h3, hi, ⟨LW.snoc hk'.1 (by omega) ⟨by show (0 : Int) ≤ 65; decide, by show (65 : Int) ≤ 255; decide⟩, ?_⟩, hv.bl, hn⟩
    show (gl o 1 ++ [_]).length ≤ 40
    rw [List.length_append, List.length_singleton]; omega
  · refine Ok.bind2 (ZbM h3 2) ?_
    rintro y c4 ⟨h4, y0, -, y1⟩
    have e : IntKind.i64.wrap (20 + y) = 20 + y := Zap (by omega) (by omega)
    rw [e, decide_eq_true (show (0 : Int) ≤ 20 + y by omega), decide_eq_true (p := True) trivial, ZhT (show (20 + y).toNat * 1 ≤ 140737488355328 by omega) (show (20 + y).toNat ≤ 9223372036854775807 by omega)]
    refine ⟨_, rfl, h4, hi, hk', ⟨LW.rep (by omega) ⟨by show (0 : Int) ≤ 0; decide, by show (0 : Int) ≤ 255; decide⟩, ?_⟩, hn⟩
    show (List.replicate _ _).length ≤ 40
    rw [List.length_replicate]; omega
  · refine Ok.bind2 (Zf0 h3 (by decide) ⟨⟨by decide, by decide⟩, ⟨by decide, by decide⟩, ⟨by decide, by decide⟩, ⟨by decide, by decide⟩, ⟨by decide, by decide⟩, ⟨by decide, by decide⟩, trivial⟩) ?_
    rintro x c4 ⟨h4, hx⟩
    exact ⟨_, rfl, h4, hi, hk', hv.bl, hx⟩
theorem reqs_P {c : V} (h : ZL c) : Ok2 (fun x c => ZL c ∧ I64 x) (ZN (Zb c) [(V.int .i64 (-1)), (V.int .i64 0), (V.int .i64 1), (V.int .i64 1000000), (V.int .i64 1000001)]) :=
  Zf0 h (by decide) ⟨⟨by decide, by decide⟩, ⟨by decide, by decide⟩, ⟨by decide, by decide⟩, ⟨by decide, by decide⟩, ⟨by decide, by decide⟩, trivial⟩
theorem Zlk {c : V} (h : ZL c) : Ok2 (fun x c => ZL c ∧ I64 x) (ZN (Zb c) [(V.int .i64 (-2)), (V.int .i64 (-1)), (V.int .i64 3), (V.int .i64 4)]) :=
  Zf0 h (by decide) ⟨⟨by decide, by decide⟩, ⟨by decide, by decide⟩, ⟨by decide, by decide⟩, ⟨by decide, by decide⟩, trivial⟩
theorem Zp5 {c : V} (h : ZL c) : Ok2 (fun x c => ZL c ∧ B_Cmd x) (Zel (Zb c)) := by
  unfold Zel
  have z : I64 0 := ⟨by decide, by decide⟩
  have m : I64 (-1) := ⟨by decide, by decide⟩
  refine .of ?_
  refine Ok.bind2 (ZbM h 4) ?_
  rintro a c1 ⟨h1, a0, a1, -⟩
  have ai : I64 a := smallI (by omega) (by omega)
  refine Ok.bind2 (ZbM h1 25) ?_
  rintro b c2 ⟨h2, -, -, -⟩
  refine Ok.bind2 (bentOp_O h2) ?_
  rintro o c3 ⟨h3, o1, o2, o3, o4⟩
  refine Ok.bind2 (Zfr h3 8) ?_
  rintro t c4 h4
  refine .ite (fun _ => ?_) (fun _ => ?_)
  · refine Ok.bind2 (Zfr h4 10) ?_
    rintro t c5 h5
    refine .ite (fun _ => ?_) (fun _ => ?_)
    · refine Ok.bind2 (reqs_P h5) ?_
      rintro x c6 ⟨h6, hx⟩
      refine Ok.bind2 (Zfr h6 20) ?_
      rintro t c7 h7
      refine .ite (fun _ => ?_) (fun _ => ⟨_, rfl, h7, m, hx, z, BL.nil, BL.nil, z⟩)
      refine Ok.bind2 (Zlk h7) ?_
      rintro y c8 ⟨h8, hy⟩
      exact ⟨_, rfl, h8, hy, hx, z, BL.nil, BL.nil, z⟩
    · refine Ok.bind2 (Zfr h5 20) ?_
      rintro t c7 h7
      refine .ite (fun _ => ?_) (fun _ => ⟨_, rfl, h7, m, z, z, BL.nil, BL.nil, z⟩)
      refine Ok.bind2 (Zlk h7) ?_
      rintro y c8 ⟨h8, hy⟩
      exact ⟨_, rfl, h8, hy, z, z, BL.nil, BL.nil, z⟩
  · refine Ok.bind2 (Zfr h4 10) ?_
    rintro t c5 h5
    refine .ite (fun _ => ?_) (fun _ => ?_)
    · refine Ok.bind2 (reqs_P h5) ?_
      rintro x c6 ⟨h6, hx⟩
      refine Ok.bind2 (Zfr h6 20) ?_
      rintro t c7 h7
      refine .ite (fun _ => ?_) (fun _ => ⟨_, rfl, h7, ai, hx, o1, o2, o3, o4⟩)
      refine Ok.bind2 (Zlk h7) ?_
      rintro y c8 ⟨h8, hy⟩
      exact ⟨_, rfl, h8, hy, hx, o1, o2, o3, o4⟩
    · refine Ok.bind2 (Zfr h5 20) ?_
      rintro t c7 h7
      refine .ite (fun _ => ?_) (fun _ => ⟨_, rfl, h7, ai, wrI _, o1, o2, o3, o4⟩)
      refine Ok.bind2 (Zlk h7) ?_
      rintro y c8 ⟨h8, hy⟩
      exact ⟨_, rfl, h8, hy, wrI _, o1, o2, o3, o4⟩
theorem ZdO {code : List V} (h : LW ZS code) : Ok (fun r => (∃ s : SD, BI s ∧ r.1 = s.v) ∧ B_Cmd r.2) (Zbm code) := by
  unfold Zbm
  refine Ok.bind (new_O h) ?_
  intro c0 h0
  refine Ok.bind (bent_S h0) ?_
  rintro ⟨st, c1⟩ ⟨h1, s, hb, e⟩
  have h1 : ZL c1 := h1
  have e : st = s.v := e
  subst e
  refine Ok.bind2 (Zp5 h1) ?_
  rintro x c2 ⟨h2, hx⟩
  obtain ⟨x1, x2, x3, x4, x5, x6⟩ := hx
  have keep : ∀ n : Int, I64 n → Ok (fun r : V × V => (∃ s : SD, BI s ∧ r.1 = s.v) ∧ B_Cmd r.2) (some (Za s.v, V.agg [(V.int .i64 (gi x 0)), (V.int .i64 n), (V.int .i64 (gi x 2)), (V.inl Zc (gl x 3)), (V.inl Zc (gl x 4)), (V.int .i64 (gi x 5))])) := fun n hn => ⟨_, rfl, ⟨s, hb, rfl⟩, x1, hn, x3, x4, x5, x6⟩
  have last : ∀ cur : V, ZL cur → Ok (fun r : V × V => (∃ s : SD, BI s ∧ r.1 = s.v) ∧ B_Cmd r.2) (Option.bind (ZH (Zb cur) 2) fun q => bif q.1 then some (Za s.v, V.agg [(V.int .i64 (gi x 0)), (V.int .i64 (IntKind.i64.wrap ((gi x 1) + 20))), (V.int .i64 (gi x 2)), (V.inl Zc (gl x 3)), (V.inl Zc (gl x 4)), (V.int .i64 (gi x 5))]) else some (Za s.v, Zn x)) := fun cur hc => by
    refine Ok.bind (Zfq hc 2) ?_
    rintro ⟨b, c⟩ _
    exact .ite (fun _ => keep _ (wrI _)) (fun _ => keep _ x2)
  refine .ite (fun hs => ?_) (fun _ => last c2 h2)
  refine .ite (fun _ => ?_) (fun _ => last c2 h2)
  have hs : (0 : Int) < ((s.sess.length : Nat) : Int) := of_decide_eq_true hs
  refine Ok.bind (Zfq h2 2) ?_
  rintro ⟨b, c3⟩ h3
  refine .ite (fun _ => ?_) (fun _ => last c3 h3)
  refine Ok.bind2 (ZbM h3 _) ?_
  rintro y c4 ⟨h4, y0, y1, y2⟩
  have y2 : y < ((s.sess.length : Nat) : Int) ∨ y = 0 := y2
  have hy : y.toNat < s.sess.length := by omega
  refine .chk (ZdA y0 (show y < ((s.sess.length : Nat) : Int) by omega)) ?_
  have hid : I64 (gi (rd (gl s.v 4) (0 + y.toNat)) 0) := by rw [Nat.zero_add]; exact hb.sess _ (Zu hy)
  refine Ok.bind (Zfq h4 2) ?_
  rintro ⟨b, c⟩ _
  exact .ite (fun _ => ⟨_, rfl, ⟨s, hb, rfl⟩, x1, wrI _, x3, x4, x5, hid⟩) (fun _ => ⟨_, rfl, ⟨s, hb, rfl⟩, x1, x2, x3, x4, x5, hid⟩)
end Go.Eng.R
