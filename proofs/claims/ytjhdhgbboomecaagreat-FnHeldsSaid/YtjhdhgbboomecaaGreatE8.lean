/- An own evaluator of the program's form, proved sound, and what it says of this law's functions: part 8. -/
import Derived.Test.YtjhdhgbboomecaaGreatE7
set_option linter.unusedVariables false

open Go Go.Eng Go.Proofs
namespace Go.Eng.R
noncomputable def c23 : Cfg := Z4 (P := Tryz.prog) (tab := tab) [] false []
def a23_0 (r_ : List V × Int) : List (Ex × St) := [((Ex.exit 0), (⟨[(0, (V.inl Zc r_.1)), (3, (vi r_.2))], [], 0, []⟩ : St))]
def s23_0 : SS := ⟨[(0, (.one (.inl Zc))), (3, (.one (.int .i64))), (4, (.one (.int .i64)))], [], 0, []⟩
noncomputable def l23_0 : LE := le0 3 s23_0 (fun st => ZbI ((((((sv st 0).L).length : Nat) : Int) - ((sv st 2).I)).toNat + 1) ((sv st 0).L) ((sv st 1).I) ((sv st 2).I)) a23_0
noncomputable def L23 : Loops := ⟨fun k => (look [(3, [0, 3, 4])] k).getD [], fun _ => [], fun k => (look [(3, [0, 3])] k).getD [], runL [l23_0], [], fun _ => []⟩
theorem t23_0 (k_ : Nat) : ∀ (code0 : List V) (h3 : Int) (i4 : Int), Agr id (pk0 a23_0) (ZbI k_ code0 h3 i4) (ZJ c23 L23 (lpB Tryz.f23 0) k_ (s23_0.mk' (stv [V.inl 0 code0, vi h3, vi i4] []))) := by
  induction k_ with
  | zero => exact fun _ _ _ => g0
  | succ k_ ih => exact fun _ _ _ => gA (g1 (g1 (g1 (ih _ _ _) g0) g4) g4) (by kernel_rfl)
theorem o23 : ZE c23 L23 (ZP Tryz.f23) := GoodAll.ok (l := [l23_0]) (.cons 0 (by kernel_rfl) (gd0 (fun st => (((((sv st 0).L).length : Nat) : Int) - ((sv st 2).I)).toNat + 1) (fun st => t23_0 _ _ _ _) fun st => by kernel_rfl) (.nil)) rfl
noncomputable def e23 : En Tryz.prog tab := enP base [] false [] Tryz.func23 (L := L23) o23 [(.one (.inl Zc))] (fun a => Zdx ((rd a 0).L)) (fun r_ : V => ((V.nb ZM (l0 r_)), [])) [[(.inl Zc)]] [] [some Zc] false (by kernel_rfl) fun _ => gA (g2 fun _ => g4) (by kernel_rfl)
noncomputable def e54 : En Tryz.prog tab := enP base [] false [] Tryz.func54 ZaD [(.rf ZM [(.inl Zc), (.int .i64), (.int .i64)])] (fun a => ZbT ((rd a 0).unbox)) (fun r_ : Int × V => ((vi r_.1), [(V.rf ZM (l0 r_.2))])) [] [[(.inl Zc)]] [none] false (by kernel_rfl) fun _ => gA (g1 (g1 g4 g0) g4) (by kernel_rfl)
set_option maxRecDepth 100000 in
noncomputable def e27 : En Tryz.prog tab := enP base [e54] false [] Tryz.func27 ZaD [(.rf ZM [(.inl Zc), (.int .i64), (.int .i64)]), (.one (.int .i64))] (fun a => Zh ((rd a 0).unbox) ((rd a 1).I)) (fun r_ : Int × V => ((vi r_.1), [(V.rf ZM (l0 r_.2))])) [] [[(.inl Zc)]] [none, none] false (by kernel_rfl) fun _ => gA (g1 g4 (g1 (g2 fun _ => g1 g4 g0) (g2 fun _ => g2 fun _ => g2 fun _ => g2 fun _ => g1 g4 g0))) (by kernel_rfl)
noncomputable def e52 : En Tryz.prog tab := enP base [e27] false [] Tryz.func52 ZaD [(.rf ZM [(.inl Zc), (.int .i64), (.int .i64)]), (.one (.inl t_int'))] (fun a => Za3 ((rd a 0).unbox) ((rd a 1).L)) (fun r_ : Int × V => ((vi r_.1), [(V.rf ZM (l0 r_.2))])) [] [[(.inl Zc)]] [none, some t_int'] false (by kernel_rfl) fun _ => gA (g2 fun _ => g1 g4 g0) (by kernel_rfl)
noncomputable def e107 : En Tryz.prog tab := enP base [e27] false [] Tryz.func107 ZaD [(.rf ZM [(.inl Zc), (.int .i64), (.int .i64)])] (fun a => ZbX ((rd a 0).unbox)) (fun r_ : List V × V => ((V.inl Zc r_.1), [(V.rf ZM (l0 r_.2))])) [[(.inl Zc)]] [[(.inl Zc)]] [none] false (by kernel_rfl) fun _ => gA (g2 fun _ => g1 g4 g0) (by kernel_rfl)
noncomputable def e39 : En Tryz.prog tab := enP base [e27] false [] Tryz.func39 ZaD [(.rf ZM [(.inl Zc), (.int .i64), (.int .i64)])] (fun a => ZaM ((rd a 0).unbox)) (fun r_ : List V × V => ((V.inl Zc r_.1), [(V.rf ZM (l0 r_.2))])) [[(.inl Zc)]] [[(.inl Zc)]] [none] false (by kernel_rfl) fun _ => gA (g2 fun _ => g1 g4 g0) (by kernel_rfl)
set_option maxRecDepth 100000 in
noncomputable def e78 : En Tryz.prog tab := enP base [e52, e107, e39, e27] false [] Tryz.func78 ZaD [(.rf ZM [(.inl Zc), (.int .i64), (.int .i64)]), (.one (.int .i64))] (fun a => spec_l2op ((rd a 0).unbox) ((rd a 1).I)) (fun r_ : V × V => ((n_impl_Op r_.1), [(V.rf ZM (l0 r_.2))])) [[.dead, (.inl Zc), (.inl Zc)]] [[(.inl Zc)]] [none, none] false (by kernel_rfl) fun _ => gA (g2 fun _ => g1 (g2 fun _ => g1 (g1 (g1 (g2 fun _ => g1 (g2 fun _ => g4) (g1 (g2 fun _ => g2 fun _ => g4) (g1 (g2 fun _ => g1 (g2 fun _ => g4) g4) (g1 (g2 fun _ => g1 (g2 fun _ => g4) g4) (g1 (g2 fun _ => g1 (g2 fun _ => g4) g4) g4))))) (g1 (g2 fun _ => g4) (g1 (g2 fun _ => g2 fun _ => g4) (g1 (g2 fun _ => g1 (g2 fun _ => g4) g4) (g1 (g2 fun _ => g1 (g2 fun _ => g4) g4) (g1 (g2 fun _ => g1 (g2 fun _ => g4) g4) g4)))))) (g1 (g2 fun _ => g4) (g1 (g2 fun _ => g2 fun _ => g4) (g1 (g2 fun _ => g1 (g2 fun _ => g4) g4) (g1 (g2 fun _ => g1 (g2 fun _ => g4) g4) (g1 (g2 fun _ => g1 (g2 fun _ => g4) g4) g4)))))) (g1 (g2 fun _ => g4) (g1 (g2 fun _ => g2 fun _ => g4) (g1 (g2 fun _ => g1 (g2 fun _ => g4) g4) (g1 (g2 fun _ => g1 (g2 fun _ => g4) g4) (g1 (g2 fun _ => g1 (g2 fun _ => g4) g4) g4)))))) (g1 (g2 fun _ => g1 (g1 (g1 (g2 fun _ => g1 (g2 fun _ => g4) (g1 (g2 fun _ => g2 fun _ => g4) (g1 (g2 fun _ => g1 (g2 fun _ => g4) g4) (g1 (g2 fun _ => g1 (g2 fun _ => g4) g4) (g1 (g2 fun _ => g1 (g2 fun _ => g4) g4) g4))))) (g1 (g2 fun _ => g4) (g1 (g2 fun _ => g2 fun _ => g4) (g1 (g2 fun _ => g1 (g2 fun _ => g4) g4) (g1 (g2 fun _ => g1 (g2 fun _ => g4) g4) (g1 (g2 fun _ => g1 (g2 fun _ => g4) g4) g4)))))) (g1 (g2 fun _ => g4) (g1 (g2 fun _ => g2 fun _ => g4) (g1 (g2 fun _ => g1 (g2 fun _ => g4) g4) (g1 (g2 fun _ => g1 (g2 fun _ => g4) g4) (g1 (g2 fun _ => g1 (g2 fun _ => g4) g4) g4)))))) (g1 (g2 fun _ => g4) (g1 (g2 fun _ => g2 fun _ => g4) (g1 (g2 fun _ => g1 (g2 fun _ => g4) g4) (g1 (g2 fun _ => g1 (g2 fun _ => g4) g4) (g1 (g2 fun _ => g1 (g2 fun _ => g4) g4) g4)))))) (g1 (g2 fun _ => g1 (g1 (g1 (g2 fun _ => g1 (g2 fun _ => g4) (g1 (g2 fun _ => g2 fun _ => g4) (g1 (g2 fun _ => g1 (g2 fun _ => g4) g4) (g1 (g2 fun _ => g1 (g2 fun _ => g4) g4) (g1 (g2 fun _ => g1 (g2 fun _ => g4) g4) g4))))) (g1 (g2 fun _ => g4) (g1 (g2 fun _ => g2 fun _ => g4) (g1 (g2 fun _ => g1 (g2 fun _ => g4) g4) (g1 (g2 fun _ => g1 (g2 fun _ => g4) g4) (g1 (g2 fun _ => g1 (g2 fun _ => g4) g4) g4)))))) (g1 (g2 fun _ => g4) (g1 (g2 fun _ => g2 fun _ => g4) (g1 (g2 fun _ => g1 (g2 fun _ => g4) g4) (g1 (g2 fun _ => g1 (g2 fun _ => g4) g4) (g1 (g2 fun _ => g1 (g2 fun _ => g4) g4) g4)))))) (g1 (g2 fun _ => g4) (g1 (g2 fun _ => g2 fun _ => g4) (g1 (g2 fun _ => g1 (g2 fun _ => g4) g4) (g1 (g2 fun _ => g1 (g2 fun _ => g4) g4) (g1 (g2 fun _ => g1 (g2 fun _ => g4) g4) g4)))))) (g1 (g1 (g1 (g2 fun _ => g1 (g2 fun _ => g4) (g1 (g2 fun _ => g2 fun _ => g4) (g1 (g2 fun _ => g1 (g2 fun _ => g4) g4) (g1 (g2 fun _ => g1 (g2 fun _ => g4) g4) (g1 (g2 fun _ => g1 (g2 fun _ => g4) g4) g4))))) (g1 (g2 fun _ => g4) (g1 (g2 fun _ => g2 fun _ => g4) (g1 (g2 fun _ => g1 (g2 fun _ => g4) g4) (g1 (g2 fun _ => g1 (g2 fun _ => g4) g4) (g1 (g2 fun _ => g1 (g2 fun _ => g4) g4) g4)))))) (g1 (g2 fun _ => g4) (g1 (g2 fun _ => g2 fun _ => g4) (g1 (g2 fun _ => g1 (g2 fun _ => g4) g4) (g1 (g2 fun _ => g1 (g2 fun _ => g4) g4) (g1 (g2 fun _ => g1 (g2 fun _ => g4) g4) g4)))))) (g1 (g2 fun _ => g4) (g1 (g2 fun _ => g2 fun _ => g4) (g1 (g2 fun _ => g1 (g2 fun _ => g4) g4) (g1 (g2 fun _ => g1 (g2 fun _ => g4) g4) (g1 (g2 fun _ => g1 (g2 fun _ => g4) g4) g4))))))))) (by kernel_rfl)
noncomputable def e26 : En Tryz.prog tab := enP base [e27] false [] Tryz.func26 ZaD [(.rf ZM [(.inl Zc), (.int .i64), (.int .i64)]), (.one (.int .i64))] (fun a => Za0 ((rd a 0).unbox) ((rd a 1).I)) (fun r_ : Bool × V => ((V.bool r_.1), [(V.rf ZM (l0 r_.2))])) [] [[(.inl Zc)]] [none, none] false (by kernel_rfl) fun _ => gA (g2 fun _ => g4) (by kernel_rfl)
noncomputable def c44 : Cfg := Z4 (P := Tryz.prog) (tab := tab) [] false []
def a44_0 (r_ : Nat × Int) : List (Ex × St) := [(Ex.ret, (⟨[(4, (vi r_.2))], [], 0, []⟩ : St)), ((Ex.exit 0), (⟨[(4, V.dead)], [], 0, []⟩ : St))]
def s44_0 : SS := ⟨[(1, (.one (.inl Zc))), (2, (.one (.bp 0 0))), (5, (.one (.int .i64)))], [(.box Zl q1)], 1, []⟩
noncomputable def l44_0 : LE := le1 2 s44_0 (fun st => ZbJ (((((gl (bc st 0) 1).length : Nat) : Int) - ((sv st 2).I)).toNat + 1) ((sv st 0).L) ((sv st 2).I) (bc st 0)) a44_0
noncomputable def L44 : Loops := ⟨fun k => (look [(2, [1, 2, 5])] k).getD [], fun _ => [], fun k => (look [(2, [4])] k).getD [], runL [l44_0], [], fun _ => []⟩
theorem t44_0 (k_ : Nat) : ∀ (key1 : List V) (i5 : Int) (b0 : V), Agr id (pk1 a44_0) (ZbJ k_ key1 i5 b0) (ZJ c44 L44 (lpB Tryz.f44 0) k_ (s44_0.mk' (stv [V.inl 0 key1, .dead, vi i5] [bx b0]))) := by
  induction k_ with
  | zero => exact fun _ _ _ => g0
  | succ k_ ih => exact fun _ _ _ => gA (g1 (g1 (g1 g4 (ih _ _ _)) g0) g4) (by kernel_rfl)
theorem o44 : ZE c44 L44 (ZP Tryz.f44) := GoodAll.ok (l := [l44_0]) (.cons 0 (by kernel_rfl) (gd1 (fun st => ((((gl (bc st 0) 1).length : Nat) : Int) - ((sv st 2).I)).toNat + 1) (fun st => t44_0 _ _ _ _) fun st => by kernel_rfl) (.nil)) rfl
noncomputable def e44 : En Tryz.prog tab := enP base [] false [] Tryz.func44 (L := L44) o44 [(.agg q1), (.one (.inl Zc))] (fun a => ZaQ (rd a 0) ((rd a 1).L)) (fun r_ : Int => ((vi r_), [])) [] [] [none, some Zc] false (by kernel_rfl) fun _ => gA (g2 fun _ => g1 g4 g4) (by kernel_rfl)
noncomputable def c45 : Cfg := Z4 (P := Tryz.prog) (tab := tab) [] false []
def a45_0 (r_ : Nat × Int) : List (Ex × St) := [(Ex.ret, (⟨[(4, (vi r_.2))], [], 0, []⟩ : St)), ((Ex.exit 0), (⟨[(4, V.dead)], [], 0, []⟩ : St))]
def s45_0 : SS := ⟨[(1, (.one (.inl Zc))), (2, (.one (.bp 0 0))), (5, (.one (.int .i64)))], [(.box Zl q1)], 1, []⟩
noncomputable def l45_0 : LE := le1 2 s45_0 (fun st => Zbr (((((gl (bc st 0) 2).length : Nat) : Int) - ((sv st 2).I)).toNat + 1) ((sv st 0).L) ((sv st 2).I) (bc st 0)) a45_0
noncomputable def L45 : Loops := ⟨fun k => (look [(2, [1, 2, 5])] k).getD [], fun _ => [], fun k => (look [(2, [4])] k).getD [], runL [l45_0], [], fun _ => []⟩
theorem t45_0 (k_ : Nat) : ∀ (key1 : List V) (i5 : Int) (b0 : V), Agr id (pk1 a45_0) (Zbr k_ key1 i5 b0) (ZJ c45 L45 (lpB Tryz.f45 0) k_ (s45_0.mk' (stv [V.inl 0 key1, .dead, vi i5] [bx b0]))) := by
  induction k_ with
  | zero => exact fun _ _ _ => g0
  | succ k_ ih => exact fun _ _ _ => gA (g1 (g1 (g1 g4 (ih _ _ _)) g0) g4) (by kernel_rfl)
theorem o45 : ZE c45 L45 (ZP Tryz.f45) := GoodAll.ok (l := [l45_0]) (.cons 0 (by kernel_rfl) (gd1 (fun st => ((((gl (bc st 0) 2).length : Nat) : Int) - ((sv st 2).I)).toNat + 1) (fun st => t45_0 _ _ _ _) fun st => by kernel_rfl) (.nil)) rfl
noncomputable def e45 : En Tryz.prog tab := enP base [] false [] Tryz.func45 (L := L45) o45 [(.agg q1), (.one (.inl Zc))] (fun a => ZcQ (rd a 0) ((rd a 1).L)) (fun r_ : Int => ((vi r_), [])) [] [] [none, some Zc] false (by kernel_rfl) fun _ => gA (g2 fun _ => g1 g4 g4) (by kernel_rfl)
noncomputable def c43 : Cfg := Z4 (P := Tryz.prog) (tab := tab) [] false []
def a43_0 (r_ : Nat × Int) : List (Ex × St) := [(Ex.ret, (⟨[(4, (vi r_.2))], [], 0, []⟩ : St)), ((Ex.exit 0), (⟨[(4, V.dead)], [], 0, []⟩ : St))]
def s43_0 : SS := ⟨[(1, (.one (.int .i64))), (2, (.one (.bp 0 0))), (5, (.one (.int .i64)))], [(.box Zl q1)], 1, []⟩
noncomputable def l43_0 : LE := le1 2 s43_0 (fun st => Zbs (((((gl (bc st 0) 4).length : Nat) : Int) - ((sv st 2).I)).toNat + 1) ((sv st 0).I) ((sv st 2).I) (bc st 0)) a43_0
noncomputable def L43 : Loops := ⟨fun k => (look [(2, [1, 2, 5])] k).getD [], fun _ => [], fun k => (look [(2, [4])] k).getD [], runL [l43_0], [], fun _ => []⟩
theorem t43_0 (k_ : Nat) : ∀ (id1 : Int) (i5 : Int) (b0 : V), Agr id (pk1 a43_0) (Zbs k_ id1 i5 b0) (ZJ c43 L43 (lpB Tryz.f43 0) k_ (s43_0.mk' (stv [vi id1, .dead, vi i5] [bx b0]))) := by
  induction k_ with
  | zero => exact fun _ _ _ => g0
  | succ k_ ih => exact fun _ _ _ => gA (g1 (g1 (g1 g4 (ih _ _ _)) g0) g4) (by kernel_rfl)
theorem o43 : ZE c43 L43 (ZP Tryz.f43) := GoodAll.ok (l := [l43_0]) (.cons 0 (by kernel_rfl) (gd1 (fun st => ((((gl (bc st 0) 4).length : Nat) : Int) - ((sv st 2).I)).toNat + 1) (fun st => t43_0 _ _ _ _) fun st => by kernel_rfl) (.nil)) rfl
noncomputable def e43 : En Tryz.prog tab := enP base [] false [] Tryz.func43 (L := L43) o43 [(.agg q1), (.one (.int .i64))] (fun a => Zbh (rd a 0) ((rd a 1).I)) (fun r_ : Int => ((vi r_), [])) [] [] [none, none] false (by kernel_rfl) fun _ => gA (g2 fun _ => g1 g4 g4) (by kernel_rfl)
noncomputable def c127v1 : Cfg := Z4 (P := Tryz.prog) (tab := tab) [] false []
def a127v1_0 (r_ : V × List V × List V × List V × List V) : List (Ex × St) := [((Ex.exit 0), (⟨[], [(0, some (Blk.box Zl (l2 r_.1))), (1, some (Blk.row Zg false r_.2.1)), (2, some (Blk.row Zf false r_.2.2.1)), (3, some (Blk.row Zd true r_.2.2.2.1)), (4, some (Blk.row Ze true r_.2.2.2.2))], 5, [0]⟩ : St))]
def s127v1_0 : SS := ⟨[(0, (.one (.bp 0 0)))], [(.box Zl q3), (.row Zg false), (.row Zf false), (.row Zd true), (.row Ze true)], 5, [0]⟩
noncomputable def l127v1_0 : LE := le0 3 s127v1_0 (fun st => ZbL (((((br st 2).length : Nat) : Int) - 10).toNat + 1) (bc st 0) (br st 1) (br st 2) (br st 3) (br st 4)) a127v1_0
noncomputable def L127v1 : Loops := ⟨fun k => (look [(3, [0])] k).getD [], fun _ => [], fun k => (look [(3, [])] k).getD [], runL [l127v1_0], [], fun _ => []⟩
theorem t127v1_0 (k_ : Nat) : ∀ (b0 : V) (r1 : List V) (r2 : List V) (r3 : List V) (r4 : List V), Agr id (pk0 a127v1_0) (ZbL k_ b0 r1 r2 r3 r4) (ZJ c127v1 L127v1 (lpB Tryz.f127 0) k_ (s127v1_0.mk' (stv [] [bx b0, rb r1, rb r2, rb r3, rb r4]))) := by
  induction k_ with
  | zero => exact fun _ _ _ _ _ => g0
  | succ k_ ih => exact fun b0 r1 r2 r3 r4 => gA (g1 (g1 (g1 (agr_none (O := ZJ c127v1 L127v1 (lpB Tryz.f127 0) k_ (⟨[(0, (V.bp 0 0))], [(0, some (Blk.box Zl [(vi (gi b0 0)), (vs 1 Zg), (V.sl 2 Zf 1 (some (r2.length - 1))), (vi (gi (rd r2 0) 1)), (vs 3 Zd), (vs 4 Ze)])), (1, some (Blk.row Zg false r1)), (2, some (Blk.row Zf false r2)), (3, some (Blk.row Zd true r3)), (4, some (Blk.row Ze true r4))], 5, [0]⟩ : St))) g0) g0) g4) (by kernel_rfl)
theorem o127v1 : ZE c127v1 L127v1 (ZP Tryz.f127) := GoodAll.ok (l := [l127v1_0]) (.cons 0 (by kernel_rfl) (gd0 (fun st => ((((br st 2).length : Nat) : Int) - 10).toNat + 1) (fun st => t127v1_0 _ _ _ _ _ _) fun st => by kernel_rfl) (.nil)) rfl
set_option maxRecDepth 100000 in
noncomputable def e127v1 : En Tryz.prog tab := enP base [] false [] Tryz.func127 (L := L127v1) o127v1 [(.rf Zl q4), (.one (.int .i64))] (fun a => Zcw ((rd a 0).unbox) ((rd a 1).I)) (fun r_ : V => ((V.tup []), [(V.rf Zl (l5 r_))])) [] [q6] [none, none] false (by kernel_rfl) fun _ => gA (g1 (g1 (g1 (g1 (g1 (g1 (g1 (g2 fun _ => g4) g0) g0) g0) g0) g0) g0) g0) (by kernel_rfl)
noncomputable def c126v1 : Cfg := Z4 (P := Tryz.prog) (tab := tab) [e44, e45] false []
def a126v1_0 (r_ : List V × List V × Int × V × List V × List V × List V × List V) : List (Ex × St) := [((Ex.exit 0), (⟨[(0, (V.bp 0 0)), (1, (V.inl Zc r_.1)), (2, (V.inl Zc r_.2.1)), (7, (vi r_.2.2.1))], [(0, some (Blk.box Zl (l2 r_.2.2.2.1))), (1, some (Blk.row Zg false r_.2.2.2.2.1)), (2, some (Blk.row Zf false r_.2.2.2.2.2.1)), (3, some (Blk.row Zd true r_.2.2.2.2.2.2.1)), (4, some (Blk.row Ze true r_.2.2.2.2.2.2.2))], 5, [0]⟩ : St))]
def s126v1_0 : SS := ⟨[(0, (.one (.bp 0 0))), (1, (.one (.inl Zc))), (2, (.one (.inl Zc))), (7, (.one (.int .i64)))], [(.box Zl q3), (.row Zg false), (.row Zf false), (.row Zd true), (.row Ze true)], 5, [0]⟩
noncomputable def l126v1_0 : LE := le0 12 s126v1_0 (fun st => ZU (((((br st 1).length : Nat) : Int) - ((sv st 3).I)).toNat + 1) ((sv st 1).L) ((sv st 2).L) ((sv st 3).I) (bc st 0) (br st 1) (br st 2) (br st 3) (br st 4)) a126v1_0
noncomputable def L126v1 : Loops := ⟨fun k => (look [(12, [0, 1, 2, 7])] k).getD [], fun _ => [], fun k => (look [(12, [0, 1, 2, 7])] k).getD [], runL [l126v1_0], [], fun _ => []⟩
theorem t126v1_0 (k_ : Nat) : ∀ (key1 : List V) (val2 : List V) (i7 : Int) (b0 : V) (r1 : List V) (r2 : List V) (r3 : List V) (r4 : List V), Agr id (pk0 a126v1_0) (ZU k_ key1 val2 i7 b0 r1 r2 r3 r4) (ZJ c126v1 L126v1 (lpB Tryz.f126 0) k_ (s126v1_0.mk' (stv [.dead, V.inl 0 key1, V.inl 0 val2, vi i7] [bx b0, rb r1, rb r2, rb r3, rb r4]))) := by
  induction k_ with
  | zero => exact fun _ _ _ _ _ _ _ _ => g0
  | succ k_ ih => exact fun _ _ _ _ _ _ _ _ => gA (g1 (g1 (g1 (ih _ _ _ _ _ _ _ _) g4) g0) g4) (by kernel_rfl)
theorem o126v1 : ZE c126v1 L126v1 (ZP Tryz.f126) := GoodAll.ok (l := [l126v1_0]) (.cons 0 (by kernel_rfl) (gd0 (fun st => ((((br st 1).length : Nat) : Int) - ((sv st 3).I)).toNat + 1) (fun st => t126v1_0 _ _ _ _ _ _ _ _ _) fun st => by kernel_rfl) (.nil)) rfl
set_option maxRecDepth 100000 in
noncomputable def e126v1 : En Tryz.prog tab := enP base [e44, e45] false [] Tryz.func126 (L := L126v1) o126v1 [(.rf Zl q4), (.one (.inl Zc)), (.one (.inl Zc))] (fun a => Z5 ((rd a 0).unbox) ((rd a 1).L) ((rd a 2).L)) (fun r_ : Bool × V => ((V.bool r_.1), [(V.rf Zl (l5 r_.2))])) [] [q6] [none, some Zc, some Zc] false (by kernel_rfl) fun _ => gA (g2 fun _ => g1 (g1 (g1 (g1 g4 g0) g0) g0) (g1 g4 (g2 fun _ => g1 (g1 (g1 (g1 (g1 (g2 fun _ => g1 (g1 (g1 (g1 (g1 (g1 (g1 g4 g0) g0) g0) g0) g0) g0) g0) g0) g0) g0) g0) (g2 fun _ => g1 (g1 (g1 (g1 (g1 (g1 (g1 g4 g0) g0) g0) g0) g0) g0) g0)))) (by kernel_rfl)
noncomputable def c128v1 : Cfg := Z4 (P := Tryz.prog) (tab := tab) [e127v1] false []
def a128v1_0 (r_ : V × List V × List V × List V × List V) : List (Ex × St) := [((Ex.exit 0), (⟨[], [(0, some (Blk.box Zl (l2 r_.1))), (1, some (Blk.row Zg false r_.2.1)), (2, some (Blk.row Zf false r_.2.2.1)), (3, some (Blk.row Zd true r_.2.2.2.1)), (4, some (Blk.row Ze true r_.2.2.2.2))], 5, [0]⟩ : St))]
def s128v1_0 : SS := ⟨[(0, (.one (.bp 0 0))), (4, (.one (.bp 1 0))), (5, (.one (.int .i64)))], [(.box Zl q7), (.box Zd [(.int .i64), .bool]), (.row Zg false), (.row Zf false), (.row Zd true), (.row Ze true)], 6, [0]⟩
noncomputable def l128v1_0 : LE := le0 3 s128v1_0 (fun st => Zaa (((((br st 2).length : Nat) : Int) - ((sv st 2).I)).toNat + 1) ((sv st 2).I) (bc st 0) (bc st 1) (br st 2) (br st 3) (br st 4) (br st 5)) a128v1_0
noncomputable def L128v1 : Loops := ⟨fun k => (look [(3, [0, 4, 5])] k).getD [], fun _ => [], fun k => (look [(3, [])] k).getD [], runL [l128v1_0], [], fun _ => []⟩
set_option maxRecDepth 100000 in
theorem t128v1_0 (k_ : Nat) : ∀ (k5 : Int) (b0 : V) (b1 : V) (r2 : List V) (r3 : List V) (r4 : List V) (r5 : List V), Agr id (pk0 a128v1_0) (Zaa k_ k5 b0 b1 r2 r3 r4 r5) (ZJ c128v1 L128v1 (lpB Tryz.f128 0) k_ (s128v1_0.mk' (stv [.dead, .dead, vi k5] [bx b0, bx b1, rb r2, rb r3, rb r4, rb r5]))) := by
  induction k_ with
  | zero => exact fun _ _ _ _ _ _ _ => g0
  | succ k_ ih => exact fun _ _ _ _ _ _ _ => gA (g1 (g1 (g1 (ih _ _ _ _ _ _ _) (g1 (g2 fun _ => ih _ _ _ _ _ _ _) (g1 (g1 (ih _ _ _ _ _ _ _) g0) g0))) g0) g4) (by kernel_rfl)
theorem o128v1 : ZE c128v1 L128v1 (ZP Tryz.f128) := GoodAll.ok (l := [l128v1_0]) (.cons 0 (by kernel_rfl) (gd0 (fun st => ((((br st 2).length : Nat) : Int) - ((sv st 2).I)).toNat + 1) (fun st => t128v1_0 _ _ _ _ _ _ _ _) fun st => by kernel_rfl) (.nil)) rfl
noncomputable def e128v1 : En Tryz.prog tab := enP base [e127v1] false [] Tryz.func128 (L := L128v1) o128v1 [(.rf Zl q4), (.one (.int .i64))] (fun a => Zcx ((rd a 0).unbox) ((rd a 1).I)) (fun r_ : V => ((V.tup []), [(V.rf Zl (l5 r_))])) [] [q6] [none, none] false (by kernel_rfl) fun _ => gA (g1 (g1 (g1 (g1 (g1 (g2 fun _ => g4) g0) g0) g0) g0) g0) (by kernel_rfl)
set_option maxRecDepth 100000 in
noncomputable def e108v1 : En Tryz.prog tab := enP base [e44, e126v1, e127v1, e43, e128v1] false [] Tryz.func108 ZaD [(.rf Zl q4), (.agg q8)] (fun a => ZaY ((rd a 0).unbox) (rd a 1)) (fun r_ : Int × V => ((vi r_.1), [(V.rf Zl (l5 r_.2))])) [] [q6] [none, none] false (by kernel_rfl) fun _ => gA (g1 (g2 fun _ => g1 (g2 fun _ => g1 g4 g4) (g1 (g1 (g1 (g1 g4 (g2 fun _ => g1 g4 g4)) g0) (g1 g4 (g2 fun _ => g1 g4 g4))) (g1 (g1 g4 (g2 fun _ => g4)) (g1 (g1 g4 (g1 (g1 g4 g0) g0)) (g1 (g2 fun _ => g1 g4 (g2 fun _ => g4)) (g1 (g2 fun _ => g1 g4 (g1 (g1 (g1 (g1 (g1 g4 (g2 fun _ => g1 g4 (g2 fun _ => g1 g4 g0))) g0) (g2 fun _ => g1 g4 (g2 fun _ => g1 g4 g0))) g0) (g2 fun _ => g1 g4 (g2 fun _ => g1 g4 g0)))) (g1 (g1 g4 (g1 (g1 g4 (g1 (g1 g4 g0) g0)) g0)) g4))))))) (g1 (g2 fun _ => g1 g4 g4) (g1 (g1 g4 (g2 fun _ => g1 g4 g4)) (g1 g4 (g1 (g1 g4 (g1 (g1 g4 g0) g0)) (g1 (g2 fun _ => g1 g4 (g2 fun _ => g4)) (g1 (g2 fun _ => g1 g4 (g2 fun _ => g1 g4 (g2 fun _ => g1 g4 g0))) (g1 g4 g4)))))))) (by kernel_rfl)
noncomputable def c79v1 : Cfg := Z4 (P := Tryz.prog) (tab := tab) [e108v1] false []
def a79v1_0 (r_ : Int × V × V × V × V × List V × List V × List V × List V) : List (Ex × St) := [((Ex.exit 0), (⟨[(0, (V.bp 0 0)), (3, (V.bp 1 0)), (4, (V.bp 2 0)), (5, (V.bp 3 0)), (6, (vi r_.1))], [(0, some (Blk.box Zl (l9 r_.2.1))), (1, some (Blk.box t_impl_Cmd (l10 r_.2.2.1))), (2, some (Blk.box Zdw (l11 r_.2.2.2.1))), (3, some (Blk.box Zdw (l11 r_.2.2.2.2.1))), (4, some (Blk.row Zg false r_.2.2.2.2.2.1)), (5, some (Blk.row Zf false r_.2.2.2.2.2.2.1)), (6, some (Blk.row Zd true r_.2.2.2.2.2.2.2.1)), (7, some (Blk.row Ze true r_.2.2.2.2.2.2.2.2))], 8, [0]⟩ : St))]
def s79v1_0 : SS := ⟨[(0, (.one (.bp 0 0))), (3, (.one (.bp 1 0))), (4, (.one (.bp 2 0))), (5, (.one (.bp 3 0))), (6, (.one (.int .i64)))], [(.box Zl q12), (.box t_impl_Cmd q13), (.box Zdw [(.int .i64), (.int .i64)]), (.box Zdw [(.int .i64), (.int .i64)]), (.row Zg false), (.row Zf false), (.row Zd true), (.row Ze true)], 8, [0]⟩
noncomputable def l79v1_0 : LE := le0 6 s79v1_0 (fun st => Z3 (((((br st 7).length : Nat) : Int) - ((sv st 4).I)).toNat + 1) ((sv st 4).I) (bc st 0) (bc st 1) (bc st 2) (bc st 3) (br st 4) (br st 5) (br st 6) (br st 7)) a79v1_0
noncomputable def L79v1 : Loops := ⟨fun k => (look [(6, [0, 3, 4, 5, 6])] k).getD [], fun _ => [], fun k => (look [(6, [0, 3, 4, 5, 6])] k).getD [], runL [l79v1_0], [], fun _ => []⟩
theorem t79v1_0 (k_ : Nat) : ∀ (k6 : Int) (b0 : V) (b1 : V) (b2 : V) (b3 : V) (r4 : List V) (r5 : List V) (r6 : List V) (r7 : List V), Agr id (pk0 a79v1_0) (Z3 k_ k6 b0 b1 b2 b3 r4 r5 r6 r7) (ZJ c79v1 L79v1 (lpB Tryz.f79 0) k_ (s79v1_0.mk' (stv [.dead, .dead, .dead, .dead, vi k6] [bx b0, bx b1, bx b2, bx b3, rb r4, rb r5, rb r6, rb r7]))) := by
  induction k_ with
  | zero => exact fun _ _ _ _ _ _ _ _ _ => g0
  | succ k_ ih => exact fun _ _ _ _ _ _ _ _ _ => gA (g1 (g1 (g1 (ih _ _ _ _ _ _ _ _ _) g4) g0) g4) (by kernel_rfl)
theorem o79v1 : ZE c79v1 L79v1 (ZP Tryz.f79) := GoodAll.ok (l := [l79v1_0]) (.cons 0 (by kernel_rfl) (gd0 (fun st => ((((br st 7).length : Nat) : Int) - ((sv st 4).I)).toNat + 1) (fun st => t79v1_0 _ _ _ _ _ _ _ _ _ _) fun st => by kernel_rfl) (.nil)) rfl
set_option maxRecDepth 100000 in
noncomputable def e79v1 : En Tryz.prog tab := enP base [e108v1] false [] Tryz.func79 (L := L79v1) o79v1 [(.rf Zl q4), (.agg q13)] (fun a => ZD ((rd a 0).unbox) (rd a 1)) (fun r_ : V × V => ((Zx r_.1), [(V.rf Zl (l5 r_.2))])) [] [q6] [none, none] false (by kernel_rfl) fun _ => gA (g1 g4 (g2 fun _ => g1 (g1 (g1 (g1 (g1 (g1 g4 g0) (g1 (g1 g4 (g2 fun _ => g1 (g1 g4 g0) g0)) g0)) g0) (g2 fun _ => g1 (g1 (g1 (g1 (g1 g4 g0) g0) g0) g0) g0)) g0) (g2 fun _ => g1 (g1 (g1 (g1 (g1 g4 g0) g0) g0) g0) g0))) (by kernel_rfl)
noncomputable def c51 : Cfg := Z4 (P := Tryz.prog) (tab := tab) [e27, e78, e26, e79v1] false []
def a51_0 (r_ : V × V × V × List V × List V × List V × List V × List V × List V × List V × List V) : List (Ex × St) := [((Ex.exit 0), (⟨[(2, (V.bp 1 0)), (3, (V.bp 2 0))], [(0, some (Blk.box ZM (l0 r_.1))), (1, some (Blk.box Zl (l14 r_.2.1))), (2, some (Blk.box Zl (l15 r_.2.2.1))), (3, some (Blk.row Zg true r_.2.2.2.1)), (4, some (Blk.row Zf true r_.2.2.2.2.1)), (5, some (Blk.row Zd true r_.2.2.2.2.2.1)), (6, some (Blk.row Ze true r_.2.2.2.2.2.2.1)), (7, some (Blk.row Zg false r_.2.2.2.2.2.2.2.1)), (8, some (Blk.row Zf false r_.2.2.2.2.2.2.2.2.1)), (9, some (Blk.row Zd true r_.2.2.2.2.2.2.2.2.2.1)), (10, some (Blk.row Ze true r_.2.2.2.2.2.2.2.2.2.2))], 11, [0]⟩ : St))]
def s51_0 : SS := ⟨[(0, (.one (.bp 0 0))), (2, (.one (.bp 1 0))), (3, (.one (.bp 2 0))), (4, (.one (.int .i64))), (5, (.one (.int .i64)))], [(.box ZM [(.inl Zc), (.int .i64), (.int .i64)]), (.box Zl q16), (.box Zl q17), (.row Zg true), (.row Zf true), (.row Zd true), (.row Ze true), (.row Zg false), (.row Zf false), (.row Zd true), (.row Ze true)], 11, [0]⟩
noncomputable def l51_0 : LE := le0 4 s51_0 (fun st => Zz ((((sv st 3).I) - ((sv st 4).I)).toNat + 1) ((sv st 3).I) ((sv st 4).I) (bc st 0) (bc st 1) (bc st 2) (br st 3) (br st 4) (br st 5) (br st 6) (br st 7) (br st 8) (br st 9) (br st 10)) a51_0
noncomputable def L51 : Loops := ⟨fun k => (look [(4, [0, 2, 3, 4, 5])] k).getD [], fun k => (look [(4, [⟨2, some 1, true⟩, ⟨2, some 2, true⟩, ⟨2, some 4, true⟩, ⟨2, some 5, true⟩, ⟨3, some 4, true⟩, ⟨3, some 5, true⟩, ⟨3, some 1, false⟩, ⟨3, some 2, false⟩])] k).getD [], fun k => (look [(4, [2, 3])] k).getD [], runL [l51_0], [], fun _ => []⟩
set_option maxRecDepth 100000 in
theorem t51_0 (k_ : Nat) : ∀ (n4 : Int) (i5 : Int) (b0 : V) (b1 : V) (b2 : V) (r3 : List V) (r4 : List V) (r5 : List V) (r6 : List V) (r7 : List V) (r8 : List V) (r9 : List V) (r10 : List V), Agr id (pk0 a51_0) (Zz k_ n4 i5 b0 b1 b2 r3 r4 r5 r6 r7 r8 r9 r10) (ZJ c51 L51 (lpB Tryz.f51 0) k_ (s51_0.mk' (stv [.dead, .dead, .dead, vi n4, vi i5] [bx b0, bx b1, bx b2, rb r3, rb r4, rb r5, rb r6, rb r7, rb r8, rb r9, rb r10]))) := by
  induction k_ with
  | zero => exact fun _ _ _ _ _ _ _ _ _ _ _ _ _ => g0
  | succ k_ ih => exact fun _ _ _ _ _ _ _ _ _ _ _ _ _ => gA (g1 (g2 fun _ => g2 fun _ => g1 (g2 fun _ => g2 fun _ => g1 (g2 fun _ => ih _ _ _ _ _ _ _ _ _ _ _ _ _) (g2 fun _ => ih _ _ _ _ _ _ _ _ _ _ _ _ _)) (g1 (g1 (g2 fun _ => g1 (g2 fun _ => g1 (g2 fun _ => g1 (g2 fun _ => ih _ _ _ _ _ _ _ _ _ _ _ _ _) (g2 fun _ => ih _ _ _ _ _ _ _ _ _ _ _ _ _)) g0) (g2 fun _ => g1 (g2 fun _ => ih _ _ _ _ _ _ _ _ _ _ _ _ _) (g2 fun _ => ih _ _ _ _ _ _ _ _ _ _ _ _ _))) (g2 fun _ => g1 (g2 fun _ => ih _ _ _ _ _ _ _ _ _ _ _ _ _) (g2 fun _ => ih _ _ _ _ _ _ _ _ _ _ _ _ _))) (g2 fun _ => g1 (g2 fun _ => ih _ _ _ _ _ _ _ _ _ _ _ _ _) (g2 fun _ => ih _ _ _ _ _ _ _ _ _ _ _ _ _)))) g4) (by kernel_rfl)
theorem o51 : ZE c51 L51 (ZP Tryz.f51) := GoodAll.ok (l := [l51_0]) (.cons 0 (by kernel_rfl) (gd0 (fun st => (((sv st 3).I) - ((sv st 4).I)).toNat + 1) (fun st => t51_0 _ _ _ _ _ _ _ _ _ _ _ _ _ _) fun st => by kernel_rfl) (.nil)) rfl
noncomputable def e51 : En Tryz.prog tab := enP base [e27, e78, e26, e79v1] false [] Tryz.func51 (L := L51) o51 [(.rf ZM [(.inl Zc), (.int .i64), (.int .i64)])] (fun a => Zdy ((rd a 0).unbox)) (fun r_ : V × V => ((h18 r_.1), [(V.rf ZM (l0 r_.2))])) [q6] [[(.inl Zc)]] [none] false (by kernel_rfl) fun _ => gA (g2 fun _ => g2 fun _ => g4) (by kernel_rfl)
set_option maxRecDepth 100000 in
noncomputable def e24 : En Tryz.prog tab := enP base [e51, e26, e27, e52, e39] false [] Tryz.func24 ZaD [(.rf ZM [(.inl Zc), (.int .i64), (.int .i64)])] (fun a => ZdL ((rd a 0).unbox)) (fun r_ : V × V => ((h18 r_.1), [(V.rf ZM (l0 r_.2))])) [q6] [[(.inl Zc)]] [none] false (by kernel_rfl) fun _ => gA (g2 fun _ => g2 fun _ => g1 g4 (g2 fun _ => g1 (g2 fun _ => g4) (g1 (g1 (g2 fun _ => g1 g4 g0) g4) (g1 (g1 (g2 fun _ => g1 g4 g0) g4) (g1 (g2 fun _ => g1 g4 g0) (g1 (g2 fun _ => g4) (g1 (g2 fun _ => g1 g4 g0) (g1 (g2 fun _ => g1 g4 g0) (g1 (g2 fun _ => g1 (g1 g4 g0) g0) g4))))))))) (by kernel_rfl)
set_option maxRecDepth 100000 in
noncomputable def e15 : En Tryz.prog tab := enP base [e23, e24, e26, e27] false [] Tryz.func15 ZaD [(.one (.inl Zc))] (fun a => Zdd ((rd a 0).L)) (fun r_ : V × Int => ((V.tup [(h18 r_.1), (vi r_.2)]), [])) [q6] [] [some Zc] false (by kernel_rfl) fun _ => gA (g2 fun _ => g2 fun _ => g1 (g2 fun _ => g1 (g2 fun _ => g1 g4 g0) (g2 fun _ => g4)) (g2 fun _ => g4)) (by kernel_rfl)
noncomputable def e40 : En Tryz.prog tab := enT base [] false [] Tryz.func40 ZaD [(.one (.int .i64))] (fun a => Zdz ((rd a 0).I)) (fun r_ : Bool => ((V.bool r_), [])) [] [] [none] false (by kernel_rfl) fun _ => gT (g5 g7 g7) (by kernel_rfl)
noncomputable def c41 : Cfg := Z4 (P := Tryz.prog) (tab := tab) [] false []
def a41_0 (r_ : Nat × Bool) : List (Ex × St) := [(Ex.ret, (⟨[(2, (V.bool r_.2))], [], 0, []⟩ : St)), ((Ex.exit 0), (⟨[(2, V.dead)], [], 0, []⟩ : St))]
def s41_0 : SS := ⟨[(0, (.one (.inl Zc))), (3, (.one (.int .i64)))], [], 0, []⟩
noncomputable def l41_0 : LE := le1 4 s41_0 (fun st => Zbb ((((((sv st 0).L).length : Nat) : Int) - ((sv st 1).I)).toNat + 1) ((sv st 0).L) ((sv st 1).I)) a41_0
noncomputable def L41 : Loops := ⟨fun k => (look [(4, [0, 3])] k).getD [], fun _ => [], fun k => (look [(4, [2])] k).getD [], runL [l41_0], [], fun _ => []⟩
set_option maxRecDepth 100000 in
theorem t41_0 (k_ : Nat) : ∀ (b0 : List V) (i3 : Int), Agr id (pk1 a41_0) (Zbb k_ b0 i3) (ZJ c41 L41 (lpB Tryz.f41 0) k_ (s41_0.mk' (stv [V.inl 0 b0, vi i3] []))) := by
  induction k_ with
  | zero => exact fun _ _ => g0
  | succ k_ ih => exact fun _ _ => gA (g1 (g1 (g1 (g1 (g1 g4 (ih _ _)) g0) (g1 (g1 (g1 (g1 g4 (ih _ _)) g0) (ih _ _)) g0)) g0) g4) (by kernel_rfl)
theorem o41 : ZE c41 L41 (ZP Tryz.f41) := GoodAll.ok (l := [l41_0]) (.cons 0 (by kernel_rfl) (gd1 (fun st => (((((sv st 0).L).length : Nat) : Int) - ((sv st 1).I)).toNat + 1) (fun st => t41_0 _ _ _) fun st => by kernel_rfl) (.nil)) rfl
noncomputable def e41 : En Tryz.prog tab := enP base [] false [] Tryz.func41 (L := L41) o41 [(.one (.inl Zc))] (fun a => ZdA ((rd a 0).L)) (fun r_ : Bool => ((V.bool r_), [])) [] [] [some Zc] false (by kernel_rfl) fun _ => gA (g1 g4 (g1 g4 (g2 fun _ => g1 g4 g4))) (by kernel_rfl)
noncomputable def e42 : En Tryz.prog tab := enT base [] false [] Tryz.func42 ZaD [(.one (.inl Zc))] (fun a => spec_l2val ((rd a 0).L)) (fun r_ : Bool => ((V.bool r_), [])) [] [] [some Zc] false (by kernel_rfl) fun _ => gT g7 (by kernel_rfl)
noncomputable def c16 : Cfg := Z4 (P := Tryz.prog) (tab := tab) [e40, e41, e42, e43, e44, e45] false []
def a16_0 (r_ : Nat × Bool × V) : List (Ex × St) := [(Ex.ret, (⟨[(1, (V.bp 0 0)), (2, (V.bool r_.2.1))], [(0, some (Blk.box Zl (l19 r_.2.2)))], 1, []⟩ : St)), ((Ex.exit 0), (⟨[(1, (V.bp 0 0)), (2, V.dead)], [(0, some (Blk.box Zl (l19 r_.2.2)))], 1, []⟩ : St))]
def s16_0 : SS := ⟨[(1, (.one (.bp 0 0))), (3, (.one (.int .i64)))], [(.box Zl q1)], 1, []⟩
noncomputable def l16_0 : LE := le1 4 s16_0 (fun st => Zaj (((((gl (bc st 0) 1).length : Nat) : Int) - ((sv st 1).I)).toNat + 1) ((sv st 1).I) (bc st 0)) a16_0
def a16_1 (r_ : Nat × Bool × V) : List (Ex × St) := [(Ex.ret, (⟨[(1, (V.bp 0 0)), (2, (V.bool r_.2.1))], [(0, some (Blk.box Zl (l19 r_.2.2)))], 1, []⟩ : St)), ((Ex.exit 2), (⟨[(1, (V.bp 0 0)), (2, V.dead)], [(0, some (Blk.box Zl (l19 r_.2.2)))], 1, []⟩ : St))]
def s16_1 : SS := ⟨[(1, (.one (.bp 0 0))), (5, (.one (.int .i64)))], [(.box Zl q1)], 1, []⟩
noncomputable def l16_1 : LE := le1 10 s16_1 (fun st => ZaE (((((gl (bc st 0) 2).length : Nat) : Int) - ((sv st 1).I)).toNat + 1) ((sv st 1).I) (bc st 0)) a16_1
def a16_2 (r_ : Nat × Bool × V) : List (Ex × St) := [(Ex.ret, (⟨[(1, (V.bp 0 0)), (2, (V.bool r_.2.1))], [(0, some (Blk.box Zl (l19 r_.2.2)))], 1, []⟩ : St)), ((Ex.exit 4), (⟨[(1, (V.bp 0 0)), (2, V.dead)], [(0, some (Blk.box Zl (l19 r_.2.2)))], 1, []⟩ : St))]
def s16_2 : SS := ⟨[(1, (.one (.bp 0 0))), (7, (.one (.int .i64)))], [(.box Zl q1)], 1, []⟩
noncomputable def l16_2 : LE := le1 16 s16_2 (fun st => ZaF (((((gl (bc st 0) 4).length : Nat) : Int) - ((sv st 1).I)).toNat + 1) ((sv st 1).I) (bc st 0)) a16_2
def a16_3 (r_ : Nat × Bool) : List (Ex × St) := [(Ex.ret, (⟨[(2, (V.bool r_.2))], [], 0, []⟩ : St)), ((Ex.exit 6), (⟨[(2, V.dead)], [], 0, []⟩ : St))]
def s16_3 : SS := ⟨[(1, (.one (.bp 0 0))), (8, (.one (.int .i64)))], [(.box Zl q1)], 1, []⟩
noncomputable def l16_3 : LE := le1 21 s16_3 (fun st => ZaG (((((gl (bc st 0) 5).length : Nat) : Int) - ((sv st 1).I)).toNat + 1) ((sv st 1).I) (bc st 0)) a16_3
noncomputable def L16 : Loops := ⟨fun k => (look [(4, [1, 3]), (10, [1, 5]), (16, [1, 7]), (21, [1, 8])] k).getD [], fun _ => [], fun k => (look [(4, [1, 2]), (10, [1, 2]), (16, [1, 2]), (21, [2])] k).getD [], runL [l16_0, l16_1, l16_2, l16_3], [], fun _ => []⟩
set_option maxRecDepth 100000 in
theorem t16_0 (k_ : Nat) : ∀ (i3 : Int) (b0 : V), Agr id (pk1 a16_0) (Zaj k_ i3 b0) (ZJ c16 L16 (lpB Tryz.f16 0) k_ (s16_0.mk' (stv [.dead, vi i3] [bx b0]))) := by
  induction k_ with
  | zero => exact fun _ _ => g0
  | succ k_ ih => exact fun _ _ => gA (g1 (g1 (g2 fun _ => g1 g4 (g1 g4 (g1 g4 (g1 g4 (g1 (g2 fun _ => g1 g4 (g1 (g1 (g1 g4 (ih _ _)) g0) (ih _ _))) (g1 (g1 (g1 g4 (ih _ _)) g0) (ih _ _))))))) g0) g4) (by kernel_rfl)
set_option maxRecDepth 100000 in
theorem t16_1 (k_ : Nat) : ∀ (i5 : Int) (b0 : V), Agr id (pk1 a16_1) (ZaE k_ i5 b0) (ZJ c16 L16 (lpB Tryz.f16 1) k_ (s16_1.mk' (stv [.dead, vi i5] [bx b0]))) := by
  induction k_ with
  | zero => exact fun _ _ => g0
  | succ k_ ih => exact fun _ _ => gA (g1 (g1 (g2 fun _ => g1 g4 (g2 fun _ => g1 g4 (g2 fun _ => g1 g4 (g1 g4 (g1 g4 (g1 g4 (g1 (g1 (g1 g4 (ih _ _)) g0) (ih _ _)))))))) g0) g4) (by kernel_rfl)
set_option maxRecDepth 100000 in
theorem t16_2 (k_ : Nat) : ∀ (i7 : Int) (b0 : V), Agr id (pk1 a16_2) (ZaF k_ i7 b0) (ZJ c16 L16 (lpB Tryz.f16 2) k_ (s16_2.mk' (stv [.dead, vi i7] [bx b0]))) := by
  induction k_ with
  | zero => exact fun _ _ => g0
  | succ k_ ih => exact fun _ _ => gA (g1 (g1 (g1 g4 (g1 (g1 g4 (g1 (g1 (g1 (g1 g4 (ih _ _)) g0) g0) (ih _ _))) g0)) g0) g4) (by kernel_rfl)
set_option maxRecDepth 100000 in
theorem t16_3 (k_ : Nat) : ∀ (i8 : Int) (b0 : V), Agr id (pk1 a16_3) (ZaG k_ i8 b0) (ZJ c16 L16 (lpB Tryz.f16 3) k_ (s16_3.mk' (stv [.dead, vi i8] [bx b0]))) := by
  induction k_ with
  | zero => exact fun _ _ => g0
  | succ k_ ih => exact fun _ _ => gA (g1 (g1 (g1 g4 (g1 g4 (g1 g4 (g1 g4 (g1 g4 (g1 g4 (g1 g4 (g1 g4 (g1 (g1 (g1 g4 (ih _ _)) g0) (ih _ _)))))))))) g0) g4) (by kernel_rfl)
theorem o16 : ZE c16 L16 (ZP Tryz.f16) := GoodAll.ok (l := [l16_0, l16_1, l16_2, l16_3]) (.cons 0 (by kernel_rfl) (gd1 (fun st => ((((gl (bc st 0) 1).length : Nat) : Int) - ((sv st 1).I)).toNat + 1) (fun st => t16_0 _ _ _) fun st => by kernel_rfl) (.cons 1 (by kernel_rfl) (gd1 (fun st => ((((gl (bc st 0) 2).length : Nat) : Int) - ((sv st 1).I)).toNat + 1) (fun st => t16_1 _ _ _) fun st => by kernel_rfl) (.cons 2 (by kernel_rfl) (gd1 (fun st => ((((gl (bc st 0) 4).length : Nat) : Int) - ((sv st 1).I)).toNat + 1) (fun st => t16_2 _ _ _) fun st => by kernel_rfl) (.cons 3 (by kernel_rfl) (gd1 (fun st => ((((gl (bc st 0) 5).length : Nat) : Int) - ((sv st 1).I)).toNat + 1) (fun st => t16_3 _ _ _) fun st => by kernel_rfl) (.nil))))) rfl
set_option maxRecDepth 100000 in
noncomputable def e16 : En Tryz.prog tab := enP base [e40, e41, e42, e43, e44, e45] false [] Tryz.func16 (L := L16) o16 [(.agg q1)] (fun a => ZdB (rd a 0)) (fun r_ : Bool => ((V.bool r_), [])) [] [] [none] false (by kernel_rfl) fun _ => gA (g1 g4 (g1 g4 (g1 g4 (g1 g4 (g1 g4 (g1 g4 (g1 g4 (g2 fun _ => g1 g4 (g2 fun _ => g1 g4 (g2 fun _ => g1 g4 (g2 fun _ => g1 g4 g4))))))))))) (by kernel_rfl)
noncomputable def e55 : En Tryz.prog tab := enT base [] false [] Tryz.func55 ZaD [(.one (.int .i64)), (.one (.int .i64)), (.one (.int .i64))] (fun a => ZC ((rd a 0).I) ((rd a 1).I) ((rd a 2).I)) (fun r_ : Bool => ((V.bool r_), [])) [] [] [none, none, none] false (by kernel_rfl) fun _ => gT (g5 g7 g7) (by kernel_rfl)
noncomputable def c36 : Cfg := Z4 (P := Tryz.prog) (tab := tab) [e55] false []
def a36_0 (r_ : Nat × List V × Bool) : List (Ex × St) := [(Ex.ret, (⟨[(0, (V.inl Zc r_.2.1)), (2, (V.bool r_.2.2))], [], 0, []⟩ : St)), ((Ex.exit 0), (⟨[(0, (V.inl Zc r_.2.1)), (2, V.dead)], [], 0, []⟩ : St))]
def s36_0 : SS := ⟨[(0, (.one (.inl Zc))), (5, (.one (.inl Zc))), (6, (.one (.int .i64))), (7, (.one (.int .i64)))], [], 0, []⟩
noncomputable def l36_0 : LE := le1 2 s36_0 (fun st => Zbc ((((sv st 2).I) - ((sv st 3).I)).toNat + 1) ((sv st 0).L) ((sv st 1).L) ((sv st 2).I) ((sv st 3).I)) a36_0
noncomputable def L36 : Loops := ⟨fun k => (look [(2, [0, 5, 6, 7])] k).getD [], fun _ => [], fun k => (look [(2, [0, 2])] k).getD [], runL [l36_0], [], fun _ => []⟩
set_option maxRecDepth 100000 in
theorem t36_0 (k_ : Nat) : ∀ (b0 : List V) (v5 : List V) (v6 : Int) (v7 : Int), Agr id (pk1 a36_0) (Zbc k_ b0 v5 v6 v7) (ZJ c36 L36 (lpB Tryz.f36 0) k_ (s36_0.mk' (stv [V.inl 0 b0, V.inl 0 v5, vi v6, vi v7] []))) := by
  induction k_ with
  | zero => exact fun _ _ _ _ => g0
  | succ k_ ih => exact fun _ _ _ _ => gA (g1 (g1 (g1 (g1 g4 (ih _ _ _ _)) (g1 (g1 g4 (ih _ _ _ _)) (ih _ _ _ _))) g0) g4) (by kernel_rfl)
theorem o36 : ZE c36 L36 (ZP Tryz.f36) := GoodAll.ok (l := [l36_0]) (.cons 0 (by kernel_rfl) (gd1 (fun st => (((sv st 2).I) - ((sv st 3).I)).toNat + 1) (fun st => t36_0 _ _ _ _ _) fun st => by kernel_rfl) (.nil)) rfl
noncomputable def e36 : En Tryz.prog tab := enP base [e55] false [] Tryz.func36 (L := L36) o36 [(.one (.inl Zc))] (fun a => Zbj ((rd a 0).L)) (fun r_ : Bool => ((V.bool r_), [])) [] [] [some Zc] false (by kernel_rfl) fun _ => gA (g2 fun _ => g1 g4 g4) (by kernel_rfl)
noncomputable def e56 : En Tryz.prog tab := enT base [] false [] Tryz.func56 ZaD [(.one (.inl Zc))] (fun a => Zcy ((rd a 0).L)) (fun r_ : Bool => ((V.bool r_), [])) [] [] [some Zc] false (by kernel_rfl) fun _ => gT g7 (by kernel_rfl)
noncomputable def e77 : En Tryz.prog tab := enT base [] false [] Tryz.func77 ZaD [(.agg [(.int .i64), .bool]), (.ep [(.int .i64)] 0)] (fun a => ZdC (rd a 0) ((rd a 1).unbox)) (fun r_ : Bool => ((V.bool r_), [])) [] [] [none] false (by kernel_rfl) fun _ => gT g7 (by kernel_rfl)
noncomputable def c76 : Cfg := Z4 (P := Tryz.prog) (tab := tab) [e77] false []
def a76_0 (r_ : Nat × Int) : List (Ex × St) := [(Ex.ret, (⟨[(4, (vi r_.2))], [], 0, []⟩ : St)), ((Ex.exit 0), (⟨[(4, V.dead)], [], 0, []⟩ : St))]
def s76_0 : SS := ⟨[(0, (.one (.inl Zd))), (1, (.fn 77 [[(.int .i64)]])), (7, (.one (.int .i64))), (8, (.one (.int .i64)))], [], 0, []⟩
noncomputable def l76_0 : LE := le1 2 s76_0 (fun st => ZZ ((((sv st 2).I) - ((sv st 3).I)).toNat + 1) ((sv st 0).L) ((rd (sv st 1).caps 0).unbox) ((sv st 2).I) ((sv st 3).I)) a76_0
noncomputable def L76 : Loops := ⟨fun k => (look [(2, [0, 1, 7, 8])] k).getD [], fun _ => [], fun k => (look [(2, [4])] k).getD [], runL [l76_0], [], fun _ => []⟩
theorem t76_0 (k_ : Nat) : ∀ (s0 : List V) (f1_0 : V) (v7 : Int) (v8 : Int), Agr id (pk1 a76_0) (ZZ k_ s0 f1_0 v7 v8) (ZJ c76 L76 (lpB Tryz.f76 0) k_ (s76_0.mk' (stv [V.inl 0 s0, V.fn 0 [.ep (V.cells f1_0) 0], vi v7, vi v8] []))) := by
  induction k_ with
  | zero => exact fun _ _ _ _ => g0
  | succ k_ ih => exact fun _ _ _ _ => gA (g1 (g1 (g1 g4 (ih _ _ _ _)) g0) g4) (by kernel_rfl)
theorem o76 : ZE c76 L76 (ZP Tryz.f76) := GoodAll.ok (l := [l76_0]) (.cons 0 (by kernel_rfl) (gd1 (fun st => (((sv st 2).I) - ((sv st 3).I)).toNat + 1) (fun st => t76_0 _ _ _ _ _) fun st => by kernel_rfl) (.nil)) rfl
noncomputable def e76 : En Tryz.prog tab := enP base [e77] false [] Tryz.func76 (L := L76) o76 [(.one (.inl Zd)), (.fn 77 [[(.int .i64)]])] (fun a => Zb3 ((rd a 0).L) ((rd (rd a 1).caps 0).unbox)) (fun r_ : Int => ((vi r_), [])) [] [] [some Zd, none] false (by kernel_rfl) fun _ => gA (g2 fun _ => g1 g4 g4) (by kernel_rfl)
noncomputable def e46 : En Tryz.prog tab := enP base [e76] false [] Tryz.func46 ZaD [(.agg q1), (.one (.int .i64))] (fun a => ZaZ (rd a 0) ((rd a 1).I)) (fun r_ : Int => ((vi r_), [])) [] [] [none, none] false (by kernel_rfl) fun _ => gA (g2 fun _ => g4) (by kernel_rfl)
noncomputable def e57 : En Tryz.prog tab := enCmp base Tryz.func57 (by kernel_rfl) Zc rfl rfl rfl cmp57 [some Zc, some Zc]
noncomputable def e82 : En Tryz.prog tab := enT base [e57] false [] Tryz.func82 ZaD [(.agg q20), (.one (.inl Zc))] (fun a => ZcK (rd a 0) ((rd a 1).L)) (fun r_ : Int => ((vi r_), [])) [] [] [none, some Zc] false (by kernel_rfl) fun _ => gT g7 (by kernel_rfl)
noncomputable def c81 : Cfg := Z4 (P := Tryz.prog) (tab := tab) [e82] false []
def a81_0 (r_ : List V × List V × Int × Int) : List (Ex × St) := [((Ex.exit 0), (⟨[(0, (V.inl Zg r_.1)), (1, (V.inl Zc r_.2.1)), (2, (V.fn 82 [])), (8, (vi r_.2.2.1)), (9, (vi r_.2.2.2))], [], 0, []⟩ : St))]
def s81_0 : SS := ⟨[(0, (.one (.inl Zg))), (1, (.one (.inl Zc))), (2, (.fn 82 [])), (8, (.one (.int .i64))), (9, (.one (.int .i64))), (10, (.one (.int .i64)))], [], 0, []⟩
noncomputable def l81_0 : LE := le0 3 s81_0 (fun st => ZG ((((sv st 5).I) - ((sv st 4).I)).toNat + 1) ((sv st 0).L) ((sv st 1).L) ((sv st 3).I) ((sv st 4).I) ((sv st 5).I)) a81_0
noncomputable def L81 : Loops := ⟨fun k => (look [(3, [0, 1, 2, 8, 9, 10])] k).getD [], fun _ => [], fun k => (look [(3, [0, 1, 2, 8, 9])] k).getD [], runL [l81_0], [], fun _ => []⟩
theorem t81_0 (k_ : Nat) : ∀ (x0 : List V) (target1 : List V) (n8 : Int) (i9 : Int) (j10 : Int), Agr id (pk0 a81_0) (ZG k_ x0 target1 n8 i9 j10) (ZJ c81 L81 (lpB Tryz.f81 0) k_ (s81_0.mk' (stv [V.inl 0 x0, V.inl 0 target1, V.fn 0 [], vi n8, vi i9, vi j10] []))) := by
  induction k_ with
  | zero => exact fun _ _ _ _ _ => g0
  | succ k_ ih => exact fun _ _ _ _ _ => gA (g1 (g1 (g1 (ih _ _ _ _ _) (ih _ _ _ _ _)) g0) g4) (by kernel_rfl)
theorem o81 : ZE c81 L81 (ZP Tryz.f81) := GoodAll.ok (l := [l81_0]) (.cons 0 (by kernel_rfl) (gd0 (fun st => (((sv st 5).I) - ((sv st 4).I)).toNat + 1) (fun st => t81_0 _ _ _ _ _ _) fun st => by kernel_rfl) (.nil)) rfl
noncomputable def e81 : En Tryz.prog tab := enP base [e82] false [] Tryz.func81 (L := L81) o81 [(.one (.inl Zg)), (.one (.inl Zc)), (.fn 82 [])] (fun a => Za4 ((rd a 0).L) ((rd a 1).L)) (fun r_ : Int × Bool => ((V.tup [(vi r_.1), (V.bool r_.2)]), [])) [] [] [some Zg, some Zc, none] false (by kernel_rfl) fun _ => gA (g2 fun _ => g1 (g1 g4 g0) g4) (by kernel_rfl)
noncomputable def e58 : En Tryz.prog tab := enP base [e81] false [] Tryz.func58 ZaD [(.agg q1), (.one (.inl Zc))] (fun a => ZbY (rd a 0) ((rd a 1).L)) (fun r_ : Int × Bool => ((V.tup [(vi r_.1), (V.bool r_.2)]), [])) [] [] [none, some Zc] false (by kernel_rfl) fun _ => gA (g2 fun _ => g4) (by kernel_rfl)
noncomputable def e85 : En Tryz.prog tab := enT base [] false [] Tryz.func85 ZaD [(.one (.inl Zc)), (.one (.inl Zc))] (fun a => ZdM ((rd a 0).L) ((rd a 1).L)) (fun r_ : Bool => ((V.bool r_), [])) [] [] [some Zc, some Zc] false (by kernel_rfl) fun _ => gT g7 (by kernel_rfl)
noncomputable def e84 : En Tryz.prog tab := enT base [e85] false [] Tryz.func84 ZaD [(.agg [(.inl Zc), (.int .i64)]), (.ep [(.inl Zc)] 0)] (fun a => ZdR (rd a 0) ((rd a 1).unbox)) (fun r_ : Bool => ((V.bool r_), [])) [] [] [none] false (by kernel_rfl) fun _ => gT g7 (by kernel_rfl)
noncomputable def c83 : Cfg := Z4 (P := Tryz.prog) (tab := tab) [e84] false []
def a83_0 (r_ : Nat × Int) : List (Ex × St) := [(Ex.ret, (⟨[(4, (vi r_.2))], [], 0, []⟩ : St)), ((Ex.exit 0), (⟨[(4, V.dead)], [], 0, []⟩ : St))]
def s83_0 : SS := ⟨[(0, (.one (.inl Zf))), (1, (.fn 84 [[(.inl Zc)]])), (7, (.one (.int .i64))), (8, (.one (.int .i64)))], [], 0, []⟩
noncomputable def l83_0 : LE := le1 2 s83_0 (fun st => Z8 ((((sv st 2).I) - ((sv st 3).I)).toNat + 1) ((sv st 0).L) ((rd (sv st 1).caps 0).unbox) ((sv st 2).I) ((sv st 3).I)) a83_0
noncomputable def L83 : Loops := ⟨fun k => (look [(2, [0, 1, 7, 8])] k).getD [], fun _ => [], fun k => (look [(2, [4])] k).getD [], runL [l83_0], [], fun _ => []⟩
theorem t83_0 (k_ : Nat) : ∀ (s0 : List V) (f1_0 : V) (v7 : Int) (v8 : Int), Agr id (pk1 a83_0) (Z8 k_ s0 f1_0 v7 v8) (ZJ c83 L83 (lpB Tryz.f83 0) k_ (s83_0.mk' (stv [V.inl 0 s0, V.fn 0 [.ep (V.cells f1_0) 0], vi v7, vi v8] []))) := by
  induction k_ with
  | zero => exact fun _ _ _ _ => g0
  | succ k_ ih => exact fun _ _ _ _ => gA (g1 (g1 (g1 g4 (ih _ _ _ _)) g0) g4) (by kernel_rfl)
theorem o83 : ZE c83 L83 (ZP Tryz.f83) := GoodAll.ok (l := [l83_0]) (.cons 0 (by kernel_rfl) (gd1 (fun st => (((sv st 2).I) - ((sv st 3).I)).toNat + 1) (fun st => t83_0 _ _ _ _ _) fun st => by kernel_rfl) (.nil)) rfl
noncomputable def e83 : En Tryz.prog tab := enP base [e84] false [] Tryz.func83 (L := L83) o83 [(.one (.inl Zf)), (.fn 84 [[(.inl Zc)]])] (fun a => Zcz ((rd a 0).L) ((rd (rd a 1).caps 0).unbox)) (fun r_ : Int => ((vi r_), [])) [] [] [some Zf, none] false (by kernel_rfl) fun _ => gA (g2 fun _ => g1 g4 g4) (by kernel_rfl)
noncomputable def e59 : En Tryz.prog tab := enP base [e83] false [] Tryz.func59 ZaD [(.agg q1), (.one (.inl Zc))] (fun a => Zci (rd a 0) ((rd a 1).L)) (fun r_ : Int => ((vi r_), [])) [] [] [none, some Zc] false (by kernel_rfl) fun _ => gA (g2 fun _ => g4) (by kernel_rfl)
noncomputable def c28 : Cfg := Z4 (P := Tryz.prog) (tab := tab) [e55, e36, e56, e46, e57, e58, e59] false []
def a28_0 (r_ : Nat × Bool × V) : List (Ex × St) := [(Ex.ret, (⟨[(1, (V.bp 0 0)), (2, (V.bool r_.2.1))], [(0, some (Blk.box Zl (l19 r_.2.2)))], 1, []⟩ : St)), ((Ex.exit 0), (⟨[(1, (V.bp 0 0)), (2, V.dead)], [(0, some (Blk.box Zl (l19 r_.2.2)))], 1, []⟩ : St))]
def s28_0 : SS := ⟨[(1, (.one (.bp 0 0))), (51, (.one (.inl Zg))), (52, (.one (.int .i64))), (53, (.one (.int .i64)))], [(.box Zl q1)], 1, []⟩
noncomputable def l28_0 : LE := le1 4 s28_0 (fun st => Zak ((((sv st 2).I) - ((sv st 3).I)).toNat + 1) ((sv st 1).L) ((sv st 2).I) ((sv st 3).I) (bc st 0)) a28_0
def a28_1 (r_ : Nat × Bool × V) : List (Ex × St) := [(Ex.ret, (⟨[(1, (V.bp 0 0)), (2, (V.bool r_.2.1))], [(0, some (Blk.box Zl (l19 r_.2.2)))], 1, []⟩ : St)), ((Ex.exit 2), (⟨[(1, (V.bp 0 0)), (2, V.dead)], [(0, some (Blk.box Zl (l19 r_.2.2)))], 1, []⟩ : St))]
def s28_1 : SS := ⟨[(1, (.one (.bp 0 0))), (5, (.one (.int .i64))), (110, (.one (.inl Zf))), (111, (.one (.int .i64))), (112, (.one (.int .i64)))], [(.box Zl q1)], 1, []⟩
noncomputable def l28_1 : LE := le1 11 s28_1 (fun st => ZaH ((((sv st 3).I) - ((sv st 4).I)).toNat + 1) ((sv st 1).I) ((sv st 2).L) ((sv st 3).I) ((sv st 4).I) (bc st 0)) a28_1
def a28_2 (r_ : Nat × Bool × V) : List (Ex × St) := [(Ex.ret, (⟨[(1, (V.bp 0 0)), (2, (V.bool r_.2.1))], [(0, some (Blk.box Zl (l19 r_.2.2)))], 1, []⟩ : St)), ((Ex.exit 4), (⟨[(1, (V.bp 0 0)), (2, V.dead)], [(0, some (Blk.box Zl (l19 r_.2.2)))], 1, []⟩ : St))]
def s28_2 : SS := ⟨[(1, (.one (.bp 0 0))), (152, (.one (.inl Zd))), (153, (.one (.int .i64))), (154, (.one (.int .i64)))], [(.box Zl q1)], 1, []⟩
noncomputable def l28_2 : LE := le1 19 s28_2 (fun st => ZaI ((((sv st 2).I) - ((sv st 3).I)).toNat + 1) ((sv st 1).L) ((sv st 2).I) ((sv st 3).I) (bc st 0)) a28_2
def a28_3 (r_ : Nat × Bool) : List (Ex × St) := [(Ex.ret, (⟨[(2, (V.bool r_.2))], [], 0, []⟩ : St)), ((Ex.exit 6), (⟨[(2, V.dead)], [], 0, []⟩ : St))]
def s28_3 : SS := ⟨[(1, (.one (.bp 0 0))), (183, (.one (.inl Ze))), (184, (.one (.int .i64))), (185, (.one (.int .i64)))], [(.box Zl q1)], 1, []⟩
noncomputable def l28_3 : LE := le1 25 s28_3 (fun st => ZaJ ((((sv st 2).I) - ((sv st 3).I)).toNat + 1) ((sv st 1).L) ((sv st 2).I) ((sv st 3).I) (bc st 0)) a28_3
noncomputable def L28 : Loops := ⟨fun k => (look [(4, [1, 51, 52, 53]), (11, [1, 5, 110, 111, 112]), (19, [1, 152, 153, 154]), (25, [1, 183, 184, 185])] k).getD [], fun _ => [], fun k => (look [(4, [1, 2]), (11, [1, 2]), (19, [1, 2]), (25, [2])] k).getD [], runL [l28_0, l28_1, l28_2, l28_3], [], fun _ => []⟩
set_option maxRecDepth 100000 in
theorem t28_0 (k_ : Nat) : ∀ (v51 : List V) (v52 : Int) (v53 : Int) (b0 : V), Agr id (pk1 a28_0) (Zak k_ v51 v52 v53 b0) (ZJ c28 L28 (lpB Tryz.f28 0) k_ (s28_0.mk' (stv [.dead, V.inl 0 v51, vi v52, vi v53] [bx b0]))) := by
  induction k_ with
  | zero => exact fun _ _ _ _ => g0
  | succ k_ ih => exact fun _ _ _ _ => gA (g1 (g1 (g2 fun _ => g1 g4 (g1 g4 (g1 g4 (g1 (g2 fun _ => g1 g4 (g1 (g1 (g1 g4 (ih _ _ _ _)) g0) (ih _ _ _ _))) (g1 (g1 (g1 g4 (ih _ _ _ _)) g0) (ih _ _ _ _)))))) g0) g4) (by kernel_rfl)
set_option maxRecDepth 100000 in
theorem t28_1 (k_ : Nat) : ∀ (before5 : Int) (v110 : List V) (v111 : Int) (v112 : Int) (b0 : V), Agr id (pk1 a28_1) (ZaH k_ before5 v110 v111 v112 b0) (ZJ c28 L28 (lpB Tryz.f28 1) k_ (s28_1.mk' (stv [.dead, vi before5, V.inl 0 v110, vi v111, vi v112] [bx b0]))) := by
  induction k_ with
  | zero => exact fun _ _ _ _ _ => g0
  | succ k_ ih => exact fun _ _ _ _ _ => gA (g1 (g1 (g2 fun _ => g1 g4 (g2 fun _ => g1 g4 (g2 fun _ => g1 g4 (g1 g4 (ih _ _ _ _ _))))) g0) g4) (by kernel_rfl)
set_option maxRecDepth 100000 in
theorem t28_2 (k_ : Nat) : ∀ (v152 : List V) (v153 : Int) (v154 : Int) (b0 : V), Agr id (pk1 a28_2) (ZaI k_ v152 v153 v154 b0) (ZJ c28 L28 (lpB Tryz.f28 2) k_ (s28_2.mk' (stv [.dead, V.inl 0 v152, vi v153, vi v154] [bx b0]))) := by
  induction k_ with
  | zero => exact fun _ _ _ _ => g0
  | succ k_ ih => exact fun _ _ _ _ => gA (g1 (g1 (g1 g4 (g1 (g1 (g1 g4 (ih _ _ _ _)) g0) (ih _ _ _ _))) g0) g4) (by kernel_rfl)
set_option maxRecDepth 100000 in
theorem t28_3 (k_ : Nat) : ∀ (v183 : List V) (v184 : Int) (v185 : Int) (b0 : V), Agr id (pk1 a28_3) (ZaJ k_ v183 v184 v185 b0) (ZJ c28 L28 (lpB Tryz.f28 3) k_ (s28_3.mk' (stv [.dead, V.inl 0 v183, vi v184, vi v185] [bx b0]))) := by
  induction k_ with
  | zero => exact fun _ _ _ _ => g0
  | succ k_ ih => exact fun _ _ _ _ => gA (g1 (g1 (g1 g4 (g1 g4 (g1 g4 (g1 g4 (g1 (g1 (g1 g4 (ih _ _ _ _)) g0) (ih _ _ _ _)))))) g0) g4) (by kernel_rfl)
theorem o28 : ZE c28 L28 (ZP Tryz.f28) := GoodAll.ok (l := [l28_0, l28_1, l28_2, l28_3]) (.cons 0 (by kernel_rfl) (gd1 (fun st => (((sv st 2).I) - ((sv st 3).I)).toNat + 1) (fun st => t28_0 _ _ _ _ _) fun st => by kernel_rfl) (.cons 1 (by kernel_rfl) (gd1 (fun st => (((sv st 3).I) - ((sv st 4).I)).toNat + 1) (fun st => t28_1 _ _ _ _ _ _) fun st => by kernel_rfl) (.cons 2 (by kernel_rfl) (gd1 (fun st => (((sv st 2).I) - ((sv st 3).I)).toNat + 1) (fun st => t28_2 _ _ _ _ _) fun st => by kernel_rfl) (.cons 3 (by kernel_rfl) (gd1 (fun st => (((sv st 2).I) - ((sv st 3).I)).toNat + 1) (fun st => t28_3 _ _ _ _ _) fun st => by kernel_rfl) (.nil))))) rfl
set_option maxRecDepth 100000 in
noncomputable def e28 : En Tryz.prog tab := enP base [e55, e36, e56, e46, e57, e58, e59] false [] Tryz.func28 (L := L28) o28 [(.agg q1)] (fun a => ZcA (rd a 0)) (fun r_ : Bool => ((V.bool r_), [])) [] [] [none] false (by kernel_rfl) fun _ => gA (g1 g4 (g1 g4 (g1 g4 (g1 g4 (g1 g4 (g1 g4 (g2 fun _ => g1 g4 (g2 fun _ => g1 g4 (g2 fun _ => g1 g4 (g2 fun _ => g1 g4 g4)))))))))) (by kernel_rfl)
noncomputable def e48 : En Tryz.prog tab := enT base [] false [] Tryz.func48 ZaD [(.agg q20), (.ep [(.int .i64)] 0)] (fun a => impl_Held_1 (rd a 0) ((rd a 1).unbox)) (fun r_ : Bool => ((V.bool r_), [])) [] [] [none] false (by kernel_rfl) fun _ => gT g7 (by kernel_rfl)
noncomputable def e67 : En Tryz.prog tab := enN base [] false [] Tryz.func67 ZaD Zc ZV (fun r_ : List V => ((V.rr Zc true r_), [])) [[(.rr Zc true)]] [] [some Zc] false (by kernel_rfl) (fun _ => gA (g1 g4 g0) (by kernel_rfl)) (by
  have h : evalW (wkF [[(.rr Zc true)]] []) (Z4 (P := Tryz.prog) (tab := tab) [] false []) noL Tryz.f67 [V.nl Zc] = (some (wkF [[(.rr Zc true)]] [] ((V.nil Zc), []))) := by kernel_rfl
  rw [h, ZV]
  clear h
  intro r h; revert h; simp only [List.length_nil]; intro h; first | (cases h; kernel_rfl) | (revert h; simp [Zv]; intro h; subst h; kernel_rfl))
noncomputable def c47 : Cfg := Z4 (P := Tryz.prog) (tab := tab) [e48, e67] false []
def a47_0 (r_ : List V) : List (Ex × St) := [((Ex.exit 0), (⟨[(5, (vs 0 ZbC))], [(0, some (Blk.row ZbC true r_))], 1, []⟩ : St))]
def s47_0 : SS := ⟨[(1, (.fn 48 [[(.int .i64)]])), (5, (.one (.sl 0 ZbC))), (9, (.one (.inl Zg))), (10, (.one (.int .i64))), (11, (.one (.int .i64)))], [(.row ZbC true)], 1, []⟩
noncomputable def l47_0 : LE := le0 3 s47_0 (fun st => Zal ((((sv st 3).I) - ((sv st 4).I)).toNat + 1) ((rd (sv st 0).caps 0).unbox) ((sv st 2).L) ((sv st 3).I) ((sv st 4).I) (br st 0)) a47_0
noncomputable def L47 : Loops := ⟨fun k => (look [(3, [1, 5, 9, 10, 11])] k).getD [], fun k => (look [(3, [⟨5, none, true⟩])] k).getD [], fun k => (look [(3, [5])] k).getD [], runL [l47_0], [], fun _ => []⟩
theorem t47_0 (k_ : Nat) : ∀ (asked1_0 : V) (v9 : List V) (v10 : Int) (v11 : Int) (r0 : List V), Agr id (pk0 a47_0) (Zal k_ asked1_0 v9 v10 v11 r0) (ZJ c47 L47 (lpB Tryz.f47 0) k_ (s47_0.mk' (stv [V.fn 0 [.ep (V.cells asked1_0) 0], .dead, V.inl 0 v9, vi v10, vi v11] [rb r0]))) := by
  induction k_ with
  | zero => exact fun _ _ _ _ _ => g0
  | succ k_ ih => exact fun _ _ _ _ _ => gA (g1 (g1 (g1 (g2 fun _ => g1 (ih _ _ _ _ _) g0) (ih _ _ _ _ _)) g0) g4) (by kernel_rfl)
theorem o47 : ZE c47 L47 (ZP Tryz.f47) := GoodAll.ok (l := [l47_0]) (.cons 0 (by kernel_rfl) (gd0 (fun st => (((sv st 3).I) - ((sv st 4).I)).toNat + 1) (fun st => t47_0 _ _ _ _ _ _) fun st => by kernel_rfl) (.nil)) rfl
noncomputable def e47 : En Tryz.prog tab := enP base [e48, e67] false [] Tryz.func47 (L := L47) o47 [(.agg q1), (.fn 48 [[(.int .i64)]])] (fun a => ZcS (rd a 0) ((rd (rd a 1).caps 0).unbox)) (fun r_ : List V => ((V.rr ZbC true r_), [])) [[(.rr ZbC true)]] [] [none, none] false (by kernel_rfl) fun _ => gA (g2 fun _ => g4) (by kernel_rfl)
noncomputable def e17 : En Tryz.prog tab := enP base [e28, e46, e47] false [] Tryz.func17 ZaD [(.agg q1), (.one (.int .i64))] (fun a => ZcZ (rd a 0) ((rd a 1).I)) (fun r_ : List V => ((V.rr ZbC true r_), [])) [[(.rr ZbC true)]] [] [none, none] false (by kernel_rfl) fun _ => gA (g2 fun _ => g1 g4 (g2 fun _ => g1 g4 (g2 fun _ => g4))) (by kernel_rfl)
noncomputable def e11 : En Tryz.prog tab := enB Tryz.func11 (by kernel_rfl) alive11
noncomputable def e61 : En Tryz.prog tab := enT base [] false [] Tryz.func61 ZaD [] (fun a => impl_noOp) (fun r_ : V => ((h21 r_), [])) [q22] [] [] false (by kernel_rfl) fun _ => gT g7 (by kernel_rfl)
noncomputable def e86 : En Tryz.prog tab := enT base [e85] false [] Tryz.func86 ZaD [(.agg q8), (.agg q8)] (fun a => impl_Op_same (rd a 0) (rd a 1)) (fun r_ : Bool => ((V.bool r_), [])) [] [] [none, none] false (by kernel_rfl) fun _ => gT (g5 (g5 (g5 g7 g7) g7) g7) (by kernel_rfl)
noncomputable def e60 : En Tryz.prog tab := enT base [e86] false [] Tryz.func60 ZaD [(.agg q13), (.agg q13)] (fun a => impl_Cmd_same (rd a 0) (rd a 1)) (fun r_ : Bool => ((V.bool r_), [])) [] [] [none, none] false (by kernel_rfl) fun _ => gT (g5 (g5 g7 g7) g7) (by kernel_rfl)
set_option maxRecDepth 100000 in
noncomputable def e62 : En Tryz.prog tab := enP base [e55, e36, e56] false [] Tryz.func62 ZaD [(.agg q8)] (fun a => impl_OpOk (rd a 0)) (fun r_ : Bool => ((V.bool r_), [])) [] [] [none] false (by kernel_rfl) fun _ => gA (g1 (g1 (g1 g4 g4) g4) (g1 (g1 (g2 fun _ => g1 (g1 g4 g4) g4) g4) (g1 (g1 (g2 fun _ => g1 (g1 g4 g4) g4) g4) (g1 (g1 (g2 fun _ => g1 g4 g4) g4) (g1 (g1 (g1 g4 g4) g4) (g1 (g1 (g1 g4 g4) g4) (g1 (g1 (g2 fun _ => g1 (g1 g4 g4) g4) g4) (g1 (g1 (g2 fun _ => g1 g4 g4) g4) g4)))))))) (by kernel_rfl)
noncomputable def e29 : En Tryz.prog tab := enP base [e61, e60, e55, e62] false [] Tryz.func29 ZaD [(.agg q13)] (fun a => impl_CmdOk (rd a 0)) (fun r_ : Bool => ((V.bool r_), [])) [] [] [none] false (by kernel_rfl) fun _ => gA (g1 g4 (g1 (g1 (g2 fun _ => g4) g4) g4)) (by kernel_rfl)
noncomputable def e63 : En Tryz.prog tab := enN base [] false [] Tryz.func63 ZaD Zg Zb4 (fun r_ : List V => ((V.rr Zg false r_), [])) [[(.rr Zg false)]] [] [some Zg] false (by kernel_rfl) (fun _ => gA (g1 g4 g0) (by kernel_rfl)) (by
  have h : evalW (wkF [[(.rr Zg false)]] []) (Z4 (P := Tryz.prog) (tab := tab) [] false []) noL Tryz.f63 [V.nl Zg] = (some (wkF [[(.rr Zg false)]] [] ((V.nil Zg), []))) := by kernel_rfl
  rw [h, Zb4]
  clear h
  intro r h; revert h; simp only [List.length_nil]; intro h; first | (cases h; kernel_rfl) | (revert h; simp [Zv]; intro h; subst h; kernel_rfl))
noncomputable def e64 : En Tryz.prog tab := enN base [] false [] Tryz.func64 ZaD Zf ZbM (fun r_ : List V => ((V.rr Zf false r_), [])) [[(.rr Zf false)]] [] [some Zf] false (by kernel_rfl) (fun _ => gA (g1 g4 g0) (by kernel_rfl)) (by
  have h : evalW (wkF [[(.rr Zf false)]] []) (Z4 (P := Tryz.prog) (tab := tab) [] false []) noL Tryz.f64 [V.nl Zf] = (some (wkF [[(.rr Zf false)]] [] ((V.nil Zf), []))) := by kernel_rfl
  rw [h, ZbM]
  clear h
  intro r h; revert h; simp only [List.length_nil]; intro h; first | (cases h; kernel_rfl) | (revert h; simp [Zv]; intro h; subst h; kernel_rfl))
noncomputable def e65 : En Tryz.prog tab := enN base [] false [] Tryz.func65 ZaD Zd Zbk (fun r_ : List V => ((V.rr Zd true r_), [])) [[(.rr Zd true)]] [] [some Zd] false (by kernel_rfl) (fun _ => gA (g1 g4 g0) (by kernel_rfl)) (by
  have h : evalW (wkF [[(.rr Zd true)]] []) (Z4 (P := Tryz.prog) (tab := tab) [] false []) noL Tryz.f65 [V.nl Zd] = (some (wkF [[(.rr Zd true)]] [] ((V.nil Zd), []))) := by kernel_rfl
  rw [h, Zbk]
  clear h
  intro r h; revert h; simp only [List.length_nil]; intro h; first | (cases h; kernel_rfl) | (revert h; simp [Zv]; intro h; subst h; kernel_rfl))
end Go.Eng.R
open Go Go.Eng Go.Proofs
namespace Go.Eng.R
noncomputable def e66 : En Tryz.prog tab := enN base [] false [] Tryz.func66 ZaD Ze ZbN (fun r_ : List V => ((V.rr Ze true r_), [])) [[(.rr Ze true)]] [] [some Ze] false (by kernel_rfl) (fun _ => gA (g1 g4 g0) (by kernel_rfl)) (by
  have h : evalW (wkF [[(.rr Ze true)]] []) (Z4 (P := Tryz.prog) (tab := tab) [] false []) noL Tryz.f66 [V.nl Ze] = (some (wkF [[(.rr Ze true)]] [] ((V.nil Ze), []))) := by kernel_rfl
  rw [h, ZbN]
  clear h
  intro r h; revert h; simp only [List.length_nil]; intro h; first | (cases h; kernel_rfl) | (revert h; simp [Zv]; intro h; subst h; kernel_rfl))
noncomputable def c30 : Cfg := Z4 (P := Tryz.prog) (tab := tab) [e63, e64, e65, e66, e67] false []
def a30_0 (r_ : V × V × List V × List V × List V × List V × List V × List V × List V × List V) : List (Ex × St) := [((Ex.exit 0), (⟨[(1, (V.bp 0 0)), (2, (V.bp 1 0))], [(0, some (Blk.box Zl (l23 r_.1))), (1, some (Blk.box Zl (l24 r_.2.1))), (2, some (Blk.row Zg false r_.2.2.1)), (3, some (Blk.row Zf false r_.2.2.2.1)), (4, some (Blk.row Zd true r_.2.2.2.2.1)), (5, some (Blk.row Ze true r_.2.2.2.2.2.1)), (6, some (Blk.row Zg true r_.2.2.2.2.2.2.1)), (7, some (Blk.row Zf true r_.2.2.2.2.2.2.2.1)), (8, some (Blk.row Zd true r_.2.2.2.2.2.2.2.2.1)), (9, some (Blk.row Ze true r_.2.2.2.2.2.2.2.2.2))], 10, []⟩ : St))]
def s30_0 : SS := ⟨[(1, (.one (.bp 0 0))), (2, (.one (.bp 1 0))), (24, (.one (.sl 2 Zg))), (25, (.one (.int .i64))), (26, (.one (.int .i64)))], [(.box Zl q7), (.box Zl q25), (.row Zg false), (.row Zf false), (.row Zd true), (.row Ze true), (.row Zg true), (.row Zf true), (.row Zd true), (.row Ze true)], 10, []⟩
noncomputable def l30_0 : LE := le0 3 s30_0 (fun st => ZaO ((((sv st 3).I) - ((sv st 4).I)).toNat + 1) ((sv st 3).I) ((sv st 4).I) (bc st 0) (bc st 1) (br st 2) (br st 3) (br st 4) (br st 5) (br st 6) (br st 7) (br st 8) (br st 9)) a30_0
def a30_1 (r_ : V × V × List V × List V × List V × List V × List V × List V × List V × List V) : List (Ex × St) := [((Ex.exit 2), (⟨[(1, (V.bp 0 0)), (2, (V.bp 1 0))], [(0, some (Blk.box Zl (l23 r_.1))), (1, some (Blk.box Zl (l24 r_.2.1))), (2, some (Blk.row Zg false r_.2.2.1)), (3, some (Blk.row Zf false r_.2.2.2.1)), (4, some (Blk.row Zd true r_.2.2.2.2.1)), (5, some (Blk.row Ze true r_.2.2.2.2.2.1)), (6, some (Blk.row Zg true r_.2.2.2.2.2.2.1)), (7, some (Blk.row Zf true r_.2.2.2.2.2.2.2.1)), (8, some (Blk.row Zd true r_.2.2.2.2.2.2.2.2.1)), (9, some (Blk.row Ze true r_.2.2.2.2.2.2.2.2.2))], 10, []⟩ : St))]
def s30_1 : SS := ⟨[(1, (.one (.bp 0 0))), (2, (.one (.bp 1 0))), (49, (.one (.sl 2 Zf))), (50, (.one (.int .i64))), (51, (.one (.int .i64)))], [(.box Zl q26), (.box Zl q25), (.row Zf false), (.row Zg false), (.row Zd true), (.row Ze true), (.row Zg true), (.row Zf true), (.row Zd true), (.row Ze true)], 10, []⟩
noncomputable def l30_1 : LE := le0 8 s30_1 (fun st => ZaP ((((sv st 3).I) - ((sv st 4).I)).toNat + 1) ((sv st 3).I) ((sv st 4).I) (bc st 0) (bc st 1) (br st 2) (br st 3) (br st 4) (br st 5) (br st 6) (br st 7) (br st 8) (br st 9)) a30_1
noncomputable def L30 : Loops := ⟨fun k => (look [(3, [1, 2, 24, 25, 26]), (8, [1, 2, 49, 50, 51])] k).getD [], fun k => (look [(3, [⟨2, some 1, true⟩, ⟨2, some 2, true⟩, ⟨2, some 4, true⟩, ⟨2, some 5, true⟩])] k).getD [], fun k => (look [(3, [1, 2]), (8, [1, 2])] k).getD [], runL [l30_0, l30_1], [], fun _ => []⟩
theorem t30_0 (k_ : Nat) : ∀ (v25 : Int) (v26 : Int) (b0 : V) (b1 : V) (r2 : List V) (r3 : List V) (r4 : List V) (r5 : List V) (r6 : List V) (r7 : List V) (r8 : List V) (r9 : List V), Agr id (pk0 a30_0) (ZaO k_ v25 v26 b0 b1 r2 r3 r4 r5 r6 r7 r8 r9) (ZJ c30 L30 (lpB Tryz.f30 0) k_ (s30_0.mk' (stv [.dead, .dead, .dead, vi v25, vi v26] [bx b0, bx b1, rb r2, rb r3, rb r4, rb r5, rb r6, rb r7, rb r8, rb r9]))) := by
  induction k_ with
  | zero => exact fun _ _ _ _ _ _ _ _ _ _ _ _ => g0
  | succ k_ ih => exact fun _ _ _ _ _ _ _ _ _ _ _ _ => gA (g1 (g1 (g2 fun _ => g2 fun _ => g1 (g1 (ih _ _ _ _ _ _ _ _ _ _ _ _) g0) g0) g0) g4) (by kernel_rfl)
theorem t30_1 (k_ : Nat) : ∀ (v50 : Int) (v51 : Int) (b0 : V) (b1 : V) (r2 : List V) (r3 : List V) (r4 : List V) (r5 : List V) (r6 : List V) (r7 : List V) (r8 : List V) (r9 : List V), Agr id (pk0 a30_1) (ZaP k_ v50 v51 b0 b1 r2 r3 r4 r5 r6 r7 r8 r9) (ZJ c30 L30 (lpB Tryz.f30 1) k_ (s30_1.mk' (stv [.dead, .dead, .dead, vi v50, vi v51] [bx b0, bx b1, rb r2, rb r3, rb r4, rb r5, rb r6, rb r7, rb r8, rb r9]))) := by
  induction k_ with
  | zero => exact fun _ _ _ _ _ _ _ _ _ _ _ _ => g0
  | succ k_ ih => exact fun _ _ _ _ _ _ _ _ _ _ _ _ => gA (g1 (g1 (g2 fun _ => g1 (ih _ _ _ _ _ _ _ _ _ _ _ _) g0) g0) g4) (by kernel_rfl)
theorem o30 : ZE c30 L30 (ZP Tryz.f30) := GoodAll.ok (l := [l30_0, l30_1]) (.cons 0 (by kernel_rfl) (gd0 (fun st => (((sv st 3).I) - ((sv st 4).I)).toNat + 1) (fun st => t30_0 _ _ _ _ _ _ _ _ _ _ _ _ _) fun st => by kernel_rfl) (.cons 1 (by kernel_rfl) (gd0 (fun st => (((sv st 3).I) - ((sv st 4).I)).toNat + 1) (fun st => t30_1 _ _ _ _ _ _ _ _ _ _ _ _ _) fun st => by kernel_rfl) (.nil))) rfl
noncomputable def e30 : En Tryz.prog tab := enP base [e63, e64, e65, e66, e67] false [] Tryz.func30 (L := L30) o30 [(.agg q1)] (fun a => Zc5 (rd a 0)) (fun r_ : V => ((h18 r_), [])) [q6] [] [none] false (by kernel_rfl) fun _ => gA (g2 fun _ => g2 fun _ => g2 fun _ => g2 fun _ => g2 fun _ => g2 fun _ => g4) (by kernel_rfl)
noncomputable def e88 : En Tryz.prog tab := enT base [] false [] Tryz.func88 ZaD [(.agg q27), (.one (.int .i64))] (fun a => ZbO (rd a 0) ((rd a 1).I)) (fun r_ : Int => ((vi r_), [])) [] [] [none, none] false (by kernel_rfl) fun _ => gT g7 (by kernel_rfl)
noncomputable def c87 : Cfg := Z4 (P := Tryz.prog) (tab := tab) [e88] false []
def a87_0 (r_ : List V × Int × Int × Int) : List (Ex × St) := [((Ex.exit 0), (⟨[(0, (V.inl Ze r_.1)), (1, (vi r_.2.1)), (2, (V.fn 88 [])), (8, (vi r_.2.2.1)), (9, (vi r_.2.2.2))], [], 0, []⟩ : St))]
def s87_0 : SS := ⟨[(0, (.one (.inl Ze))), (1, (.one (.int .i64))), (2, (.fn 88 [])), (8, (.one (.int .i64))), (9, (.one (.int .i64))), (10, (.one (.int .i64)))], [], 0, []⟩
noncomputable def l87_0 : LE := le0 3 s87_0 (fun st => ZK ((((sv st 5).I) - ((sv st 4).I)).toNat + 1) ((sv st 0).L) ((sv st 1).I) ((sv st 3).I) ((sv st 4).I) ((sv st 5).I)) a87_0
noncomputable def L87 : Loops := ⟨fun k => (look [(3, [0, 1, 2, 8, 9, 10])] k).getD [], fun _ => [], fun k => (look [(3, [0, 1, 2, 8, 9])] k).getD [], runL [l87_0], [], fun _ => []⟩
theorem t87_0 (k_ : Nat) : ∀ (x0 : List V) (target1 : Int) (n8 : Int) (i9 : Int) (j10 : Int), Agr id (pk0 a87_0) (ZK k_ x0 target1 n8 i9 j10) (ZJ c87 L87 (lpB Tryz.f87 0) k_ (s87_0.mk' (stv [V.inl 0 x0, vi target1, V.fn 0 [], vi n8, vi i9, vi j10] []))) := by
  induction k_ with
  | zero => exact fun _ _ _ _ _ => g0
  | succ k_ ih => exact fun _ _ _ _ _ => gA (g1 (g1 (g1 (ih _ _ _ _ _) (ih _ _ _ _ _)) g0) g4) (by kernel_rfl)
theorem o87 : ZE c87 L87 (ZP Tryz.f87) := GoodAll.ok (l := [l87_0]) (.cons 0 (by kernel_rfl) (gd0 (fun st => (((sv st 5).I) - ((sv st 4).I)).toNat + 1) (fun st => t87_0 _ _ _ _ _ _) fun st => by kernel_rfl) (.nil)) rfl
noncomputable def e87 : En Tryz.prog tab := enP base [e88] false [] Tryz.func87 (L := L87) o87 [(.one (.inl Ze)), (.one (.int .i64)), (.fn 88 [])] (fun a => ZaB ((rd a 0).L) ((rd a 1).I)) (fun r_ : Int × Bool => ((V.tup [(vi r_.1), (V.bool r_.2)]), [])) [] [] [some Ze, none, none] false (by kernel_rfl) fun _ => gA (g2 fun _ => g1 (g1 g4 g0) g4) (by kernel_rfl)
noncomputable def e68 : En Tryz.prog tab := enP base [e87] false [] Tryz.func68 ZaD [(.agg q1), (.one (.int .i64))] (fun a => ZdD (rd a 0) ((rd a 1).I)) (fun r_ : Int × Bool => ((V.tup [(vi r_.1), (V.bool r_.2)]), [])) [] [] [none, none] false (by kernel_rfl) fun _ => gA (g2 fun _ => g4) (by kernel_rfl)
noncomputable def e109m : En Tryz.prog tab := enIns2 base Tryz.func109 (by kernel_rfl) Zg rfl false true 64 rfl ins109 [some Zg, none, some Zg]
noncomputable def e110s : En Tryz.prog tab := enDel base Tryz.func110 (by kernel_rfl) Zf rfl false del110 delSame110 [some Zf, none, none]
set_option maxRecDepth 100000 in
noncomputable def e89 : En Tryz.prog tab := enP base [e58, e67, e109m, e59, e110s] false [] Tryz.func89 ZaD [(.rf Zl q4), (.one (.inl Zc)), (.one (.inl Zc))] (fun a => Zaf ((rd a 0).unbox) ((rd a 1).L) ((rd a 2).L)) (fun r_ : Bool × V => ((V.bool r_.1), [(V.rf Zl (l5 r_.2))])) [] [q6] [none, some Zc, some Zc] false (by kernel_rfl) fun _ => gA (g2 fun _ => g1 (g1 g4 (g2 fun _ => g2 fun _ => g2 fun _ => g1 (g2 fun _ => g2 fun _ => g1 (g1 g4 g0) g0) (g2 fun _ => g1 (g1 g4 g0) g0))) (g2 fun _ => g1 (g1 g4 g0) g0)) (by kernel_rfl)
noncomputable def e111s : En Tryz.prog tab := enDel base Tryz.func111 (by kernel_rfl) Zg rfl false del111 delSame111 [some Zg, none, none]
noncomputable def c90 : Cfg := Z4 (P := Tryz.prog) (tab := tab) [e111s, e110s] false []
def a90_0 (r_ : V × List V × List V × List V × List V) : List (Ex × St) := [((Ex.exit 0), (⟨[], [(0, some (Blk.box Zl (l2 r_.1))), (1, some (Blk.row Zg false r_.2.1)), (2, some (Blk.row Zf false r_.2.2.1)), (3, some (Blk.row Zd true r_.2.2.2.1)), (4, some (Blk.row Ze true r_.2.2.2.2))], 5, [0]⟩ : St))]
def s90_0 : SS := ⟨[(0, (.one (.bp 0 0)))], [(.box Zl q3), (.row Zg false), (.row Zf false), (.row Zd true), (.row Ze true)], 5, [0]⟩
noncomputable def l90_0 : LE := le0 2 s90_0 (fun st => ZbP (((((br st 2).length : Nat) : Int) - 10).toNat + 1) (bc st 0) (br st 1) (br st 2) (br st 3) (br st 4)) a90_0
noncomputable def L90 : Loops := ⟨fun k => (look [(2, [0])] k).getD [], fun _ => [], fun k => (look [(2, [])] k).getD [], runL [l90_0], [], fun _ => []⟩
theorem t90_0 (k_ : Nat) : ∀ (b0 : V) (r1 : List V) (r2 : List V) (r3 : List V) (r4 : List V), Agr id (pk0 a90_0) (ZbP k_ b0 r1 r2 r3 r4) (ZJ c90 L90 (lpB Tryz.f90 0) k_ (s90_0.mk' (stv [] [bx b0, rb r1, rb r2, rb r3, rb r4]))) := by
  induction k_ with
  | zero => exact fun _ _ _ _ _ => g0
  | succ k_ ih => exact fun _ _ _ _ _ => gA (g1 (g1 (g2 fun _ => ih _ _ _ _ _) g0) g4) (by kernel_rfl)
theorem o90 : ZE c90 L90 (ZP Tryz.f90) := GoodAll.ok (l := [l90_0]) (.cons 0 (by kernel_rfl) (gd0 (fun st => ((((br st 2).length : Nat) : Int) - 10).toNat + 1) (fun st => t90_0 _ _ _ _ _ _) fun st => by kernel_rfl) (.nil)) rfl
noncomputable def e90 : En Tryz.prog tab := enP base [e111s, e110s] false [] Tryz.func90 (L := L90) o90 [(.rf Zl q4), (.one (.int .i64))] (fun a => Zc6 ((rd a 0).unbox) ((rd a 1).I)) (fun r_ : V => ((V.tup []), [(V.rf Zl (l5 r_))])) [] [q6] [none, none] false (by kernel_rfl) fun _ => gA (g1 (g1 (g2 fun _ => g2 fun _ => g4) g0) g0) (by kernel_rfl)
noncomputable def e112 : En Tryz.prog tab := enDel base Tryz.func112 (by kernel_rfl) Zd rfl true del112 delSame112 [some Zd, none, none]
noncomputable def c91 : Cfg := Z4 (P := Tryz.prog) (tab := tab) [e46, e112, e90] false []
def a91_0 (r_ : V × List V × List V × List V × List V) : List (Ex × St) := [((Ex.exit 0), (⟨[], [(0, some (Blk.box Zl (l2 r_.1))), (1, some (Blk.row Zg false r_.2.1)), (2, some (Blk.row Zf false r_.2.2.1)), (3, some (Blk.row Zd true r_.2.2.2.1)), (4, some (Blk.row Ze true r_.2.2.2.2))], 5, [0]⟩ : St))]
def s91_0 : SS := ⟨[(0, (.one (.bp 0 0))), (1, (.one (.int .i64))), (6, (.one .bool)), (7, (.one (.int .i64)))], [(.box Zl q3), (.row Zg false), (.row Zf false), (.row Zd true), (.row Ze true)], 5, [0]⟩
noncomputable def l91_0 : LE := le0 7 s91_0 (fun st => Zbe (((((br st 1).length : Nat) : Int) - ((sv st 3).I)).toNat + 1) ((sv st 1).I) ((sv st 2).B) ((sv st 3).I) (bc st 0) (br st 1) (br st 2) (br st 3) (br st 4)) a91_0
noncomputable def L91 : Loops := ⟨fun k => (look [(7, [0, 1, 6, 7])] k).getD [], fun _ => [], fun k => (look [(7, [])] k).getD [], runL [l91_0], [], fun _ => []⟩
set_option maxRecDepth 100000 in
theorem t91_0 (k_ : Nat) : ∀ (id1 : Int) (remove6 : Bool) (k7 : Int) (b0 : V) (r1 : List V) (r2 : List V) (r3 : List V) (r4 : List V), Agr id (pk0 a91_0) (Zbe k_ id1 remove6 k7 b0 r1 r2 r3 r4) (ZJ c91 L91 (lpB Tryz.f91 0) k_ (s91_0.mk' (stv [.dead, vi id1, V.bool remove6, vi k7] [bx b0, rb r1, rb r2, rb r3, rb r4]))) := by
  induction k_ with
  | zero => exact fun _ _ _ _ _ _ _ _ => g0
  | succ k_ ih => exact fun _ _ _ _ _ _ _ _ => gA (g1 (g1 (g1 (ih _ _ _ _ _ _ _ _) (g1 (g2 fun _ => ih _ _ _ _ _ _ _ _) (g1 (g1 (ih _ _ _ _ _ _ _ _) g0) g0))) g0) g4) (by kernel_rfl)
theorem o91 : ZE c91 L91 (ZP Tryz.f91) := GoodAll.ok (l := [l91_0]) (.cons 0 (by kernel_rfl) (gd0 (fun st => ((((br st 1).length : Nat) : Int) - ((sv st 3).I)).toNat + 1) (fun st => t91_0 _ _ _ _ _ _ _ _ _) fun st => by kernel_rfl) (.nil)) rfl
noncomputable def e91 : En Tryz.prog tab := enP base [e46, e112, e90] false [] Tryz.func91 (L := L91) o91 [(.rf Zl q4), (.one (.int .i64))] (fun a => impl_State_shut ((rd a 0).unbox) ((rd a 1).I)) (fun r_ : Int × V => ((vi r_.1), [(V.rf Zl (l5 r_.2))])) [] [q6] [none, none] false (by kernel_rfl) fun _ => gA (g2 fun _ => g1 g4 (g1 (g2 fun _ => g2 fun _ => g4) g0)) (by kernel_rfl)
set_option maxRecDepth 100000 in
noncomputable def e69 : En Tryz.prog tab := enP base [e58, e89, e90, e91, e46] false [] Tryz.func69 ZaD [(.rf Zl q4), (.agg q8)] (fun a => Zbm ((rd a 0).unbox) (rd a 1)) (fun r_ : Int × V => ((vi r_.1), [(V.rf Zl (l5 r_.2))])) [] [q6] [none, none] false (by kernel_rfl) fun _ => gA (g2 fun _ => g1 (g1 (g1 (g1 (g1 g4 (g2 fun _ => g1 g4 g4)) (g2 fun _ => g1 g4 g4)) g0) (g1 (g1 g4 (g2 fun _ => g1 g4 g4)) (g2 fun _ => g1 g4 g4))) (g1 (g1 (g1 (g1 (g1 g4 (g2 fun _ => g1 g4 g4)) (g2 fun _ => g1 g4 g4)) g0) (g1 (g1 g4 (g2 fun _ => g1 g4 g4)) (g2 fun _ => g1 g4 g4))) (g1 (g1 g4 (g2 fun _ => g4)) (g1 (g1 g4 (g1 g4 g0)) (g1 (g2 fun _ => g4) (g1 (g2 fun _ => g1 g4 (g1 (g1 (g1 (g1 (g1 g4 (g2 fun _ => g1 g4 (g1 g4 g0))) g0) (g2 fun _ => g1 g4 (g1 g4 g0))) g0) (g2 fun _ => g1 g4 (g1 g4 g0)))) (g1 (g1 g4 (g1 (g1 g4 (g1 (g1 g4 g0) g0)) g0)) g4))))))) (by kernel_rfl)
noncomputable def e70 : En Tryz.prog tab := enIns base Tryz.func70 (by kernel_rfl) Ze rfl true 32 rfl ins70 [some Ze, none, some Ze]
set_option maxRecDepth 100000 in
noncomputable def e31 : En Tryz.prog tab := enP base [e68, e69, e70] false [] Tryz.func31 ZaD [(.rf Zl q4), (.agg q13)] (fun a => ZcL ((rd a 0).unbox) (rd a 1)) (fun r_ : V × V => ((Zx r_.1), [(V.rf Zl (l5 r_.2))])) [] [q6] [none, none] false (by kernel_rfl) fun _ => gA (g1 g4 (g2 fun _ => g1 (g1 (g1 (g1 g4 g0) (g1 (g1 (g1 g4 (g2 fun _ => g1 (g1 g4 g0) (g2 fun _ => g4))) g0) (g2 fun _ => g1 (g1 g4 g0) (g2 fun _ => g4)))) g0) (g1 (g1 (g1 g4 (g2 fun _ => g1 (g1 g4 g0) (g2 fun _ => g4))) g0) (g2 fun _ => g1 (g1 g4 g0) (g2 fun _ => g4))))) (by kernel_rfl)
noncomputable def e10 : En Tryz.prog tab := enP base [e28, e29, e30, e31] false [] Tryz.func10 ZaD [(.agg q1), (.agg q13)] (fun a => impl_Apply (rd a 0) (rd a 1)) (fun r_ : V × V => ((V.tup [(h18 r_.1), (Zx r_.2)]), [])) [q6] [] [none, none] false (by kernel_rfl) fun _ => gA (g2 fun _ => g1 g4 (g2 fun _ => g1 g4 (g1 g4 (g2 fun _ => g2 fun _ => g4)))) (by kernel_rfl)
noncomputable def c18 : Cfg := Z4 (P := Tryz.prog) (tab := tab) [e28] false []
def a18_0 (r_ : Nat × Bool × V) : List (Ex × St) := [(Ex.ret, (⟨[(4, (V.bp 0 0)), (5, (V.bool r_.2.1))], [(0, some (Blk.box Ze (l28 r_.2.2)))], 1, []⟩ : St)), ((Ex.exit 0), (⟨[(4, (V.bp 0 0)), (5, V.dead)], [(0, some (Blk.box Ze (l28 r_.2.2)))], 1, []⟩ : St))]
def s18_0 : SS := ⟨[(1, (.one (.int .i64))), (4, (.one (.bp 0 0))), (13, (.one (.inl Ze))), (14, (.one (.int .i64))), (15, (.one (.int .i64)))], [(.box Ze q27)], 1, []⟩
noncomputable def l18_0 : LE := le1 4 s18_0 (fun st => Zbt ((((sv st 3).I) - ((sv st 4).I)).toNat + 1) ((sv st 0).I) ((sv st 2).L) ((sv st 3).I) ((sv st 4).I) (bc st 0)) a18_0
noncomputable def L18 : Loops := ⟨fun k => (look [(4, [1, 4, 13, 14, 15])] k).getD [], fun _ => [], fun k => (look [(4, [4, 5])] k).getD [], runL [l18_0], [], fun _ => []⟩
theorem t18_0 (k_ : Nat) : ∀ (client1 : Int) (v13 : List V) (v14 : Int) (v15 : Int) (b0 : V), Agr id (pk1 a18_0) (Zbt k_ client1 v13 v14 v15 b0) (ZJ c18 L18 (lpB Tryz.f18 0) k_ (s18_0.mk' (stv [vi client1, .dead, V.inl 0 v13, vi v14, vi v15] [bx b0]))) := by
  induction k_ with
  | zero => exact fun _ _ _ _ _ => g0
  | succ k_ ih => exact fun _ _ _ _ _ => gA (g1 (g1 (g1 g4 (ih _ _ _ _ _)) g0) g4) (by kernel_rfl)
theorem o18 : ZE c18 L18 (ZP Tryz.f18) := GoodAll.ok (l := [l18_0]) (.cons 0 (by kernel_rfl) (gd1 (fun st => (((sv st 3).I) - ((sv st 4).I)).toNat + 1) (fun st => t18_0 _ _ _ _ _ _) fun st => by kernel_rfl) (.nil)) rfl
noncomputable def e18 : En Tryz.prog tab := enP base [e28] false [] Tryz.func18 (L := L18) o18 [(.agg q1), (.one (.int .i64))] (fun a => ZdN (rd a 0) ((rd a 1).I)) (fun r_ : V × Bool => ((V.tup [(Zap r_.1), (V.bool r_.2)]), [])) [] [] [none, none] false (by kernel_rfl) fun _ => gA (g2 fun _ => g1 g4 (g2 fun _ => g1 g4 g4)) (by kernel_rfl)
noncomputable def c5 : Cfg := Z4 (P := Tryz.prog) (tab := tab) [e15, e16, e17, e11, e10, e18] false []
def a5_0 (r_ : Nat × Bool × Int × Int × Int × V) : List (Ex × St) := [(Ex.ret, (⟨[(2, (V.bool r_.2.1)), (3, (V.bp 0 0)), (5, (vi r_.2.2.1)), (6, (vi r_.2.2.2.1)), (7, (vi r_.2.2.2.2.1))], [(0, some (Blk.box Zl (l19 r_.2.2.2.2.2)))], 1, []⟩ : St)), ((Ex.exit 2), (⟨[(2, V.dead), (3, (V.bp 0 0)), (5, (vi r_.2.2.1)), (6, (vi r_.2.2.2.1)), (7, (vi r_.2.2.2.2.1))], [(0, some (Blk.box Zl (l19 r_.2.2.2.2.2)))], 1, []⟩ : St))]
def s5_0 : SS := ⟨[(3, (.one (.bp 0 0))), (5, (.one (.int .i64))), (6, (.one (.int .i64))), (7, (.one (.int .i64))), (8, (.one (.sl 1 ZbC))), (9, (.one (.int .i64)))], [(.box Zl q1), (.row ZbC true)], 2, []⟩
noncomputable def l5_0 : LE := le1 11 s5_0 (fun st => Zaq (((((br st 1).length : Nat) : Int) - ((sv st 5).I)).toNat + 1) ((sv st 1).I) ((sv st 2).I) ((sv st 3).I) ((sv st 5).I) (bc st 0) (br st 1)) a5_0
def a5_1 (r_ : Nat × Bool × Int × Int × V) : List (Ex × St) := [(Ex.ret, (⟨[(2, (V.bool r_.2.1)), (3, (V.bp 0 0)), (5, (vi r_.2.2.1)), (6, (vi r_.2.2.2.1))], [(0, some (Blk.box Zl (l19 r_.2.2.2.2)))], 1, []⟩ : St)), ((Ex.exit 0), (⟨[(2, V.dead), (3, (V.bp 0 0)), (5, (vi r_.2.2.1)), (6, (vi r_.2.2.2.1))], [(0, some (Blk.box Zl (l19 r_.2.2.2.2)))], 1, []⟩ : St))]
def s5_1 : SS := ⟨[(3, (.one (.bp 0 0))), (5, (.one (.int .i64))), (6, (.one (.int .i64))), (7, (.one (.int .i64)))], [(.box Zl q1)], 1, []⟩
noncomputable def l5_1 : LE := le1 6 s5_1 (fun st => ZaR (((((gl (bc st 0) 4).length : Nat) : Int) - ((sv st 3).I)).toNat + 1) ((sv st 1).I) ((sv st 2).I) ((sv st 3).I) (bc st 0)) a5_1
def a5_2 (r_ : Int × Int × V) : List (Ex × St) := [((Ex.exit 4), (⟨[(3, (V.bp 0 0)), (5, (vi r_.1)), (6, (vi r_.2.1))], [(0, some (Blk.box Zl (l19 r_.2.2)))], 1, []⟩ : St))]
def s5_2 : SS := ⟨[(3, (.one (.bp 0 0))), (5, (.one (.int .i64))), (6, (.one (.int .i64))), (12, (.one (.int .i64)))], [(.box Zl q1)], 1, []⟩
noncomputable def l5_2 : LE := le0 17 s5_2 (fun st => Zar (((((gl (bc st 0) 1).length : Nat) : Int) - ((sv st 3).I)).toNat + 1) ((sv st 1).I) ((sv st 2).I) ((sv st 3).I) (bc st 0)) a5_2
def a5_3 (r_ : Nat × Bool × Int × Int) : List (Ex × St) := [(Ex.ret, (⟨[(2, (V.bool r_.2.1)), (5, (vi r_.2.2.1)), (6, (vi r_.2.2.2))], [], 0, []⟩ : St)), ((Ex.exit 6), (⟨[(2, V.dead), (5, (vi r_.2.2.1)), (6, (vi r_.2.2.2))], [], 0, []⟩ : St))]
def s5_3 : SS := ⟨[(3, (.one (.bp 0 0))), (5, (.one (.int .i64))), (6, (.one (.int .i64))), (13, (.one (.int .i64)))], [(.box Zl q1)], 1, []⟩
noncomputable def l5_3 : LE := le1 22 s5_3 (fun st => Zas (((((gl (bc st 0) 5).length : Nat) : Int) - ((sv st 3).I)).toNat + 1) ((sv st 1).I) ((sv st 2).I) ((sv st 3).I) (bc st 0)) a5_3
noncomputable def L5 : Loops := ⟨fun k => (look [(6, [3, 5, 6, 7]), (11, [3, 5, 6, 7, 8, 9]), (17, [3, 5, 6, 12]), (22, [3, 5, 6, 13])] k).getD [], fun k => (look [(6, [⟨3, some 1001, true⟩, ⟨3, some 1002, true⟩, ⟨3, some 1004, true⟩, ⟨3, some 1005, true⟩]), (11, [⟨3, some 1001, true⟩, ⟨3, some 1002, true⟩, ⟨3, some 1004, true⟩, ⟨3, some 1005, true⟩])] k).getD [], fun k => (look [(6, [2, 3, 5, 6]), (11, [2, 3, 5, 6, 7]), (17, [3, 5, 6]), (22, [2, 5, 6])] k).getD [], runL [l5_0, l5_1, l5_2, l5_3], [], fun k => (look [(13, [⟨3, some 1001, true⟩, ⟨3, some 1002, true⟩, ⟨3, some 1004, true⟩, ⟨3, some 1005, true⟩])] k).getD []⟩
set_option maxRecDepth 100000 in
theorem t5_0 (k_ : Nat) : ∀ (n5 : Int) (held6 : Int) (i7 : Int) (k9 : Int) (b0 : V) (r1 : List V), Agr id (pk1 a5_0) (Zaq k_ n5 held6 i7 k9 b0 r1) (ZJ c5 L5 (lpB Tryz.f5 1) k_ (s5_0.mk' (stv [.dead, vi n5, vi held6, vi i7, .dead, vi k9] [bx b0, rb r1]))) := by
  induction k_ with
  | zero => exact fun _ _ _ _ _ _ => g0
  | succ k_ ih => exact fun _ _ _ _ _ _ => gA (g1 (g1 (g1 (g2 fun _ => g1 (g1 (g1 g4 (ih _ _ _ _ _ _)) (ih _ _ _ _ _ _)) (ih _ _ _ _ _ _)) g0) g0) g4) (by kernel_rfl)
theorem t5_1 (k_ : Nat) : ∀ (n5 : Int) (held6 : Int) (i7 : Int) (b0 : V), Agr id (pk1 a5_1) (ZaR k_ n5 held6 i7 b0) (ZJ c5 L5 (lpB Tryz.f5 0) k_ (s5_1.mk' (stv [.dead, vi n5, vi held6, vi i7] [bx b0]))) := by
  induction k_ with
  | zero => exact fun _ _ _ _ => g0
  | succ k_ ih => exact fun _ _ _ _ => gA (g1 (g1 (g2 fun _ => g2 fun _ => g1 g4 (ih _ _ _ _)) g0) g4) (by kernel_rfl)
theorem t5_2 (k_ : Nat) : ∀ (n5 : Int) (held6 : Int) (i12 : Int) (b0 : V), Agr id (pk0 a5_2) (Zar k_ n5 held6 i12 b0) (ZJ c5 L5 (lpB Tryz.f5 2) k_ (s5_2.mk' (stv [.dead, vi n5, vi held6, vi i12] [bx b0]))) := by
  induction k_ with
  | zero => exact fun _ _ _ _ => g0
  | succ k_ ih => exact fun _ _ _ _ => gA (g1 (g1 (g1 (ih _ _ _ _) (ih _ _ _ _)) g0) g4) (by kernel_rfl)
theorem t5_3 (k_ : Nat) : ∀ (n5 : Int) (held6 : Int) (i13 : Int) (b0 : V), Agr id (pk1 a5_3) (Zas k_ n5 held6 i13 b0) (ZJ c5 L5 (lpB Tryz.f5 3) k_ (s5_3.mk' (stv [.dead, vi n5, vi held6, vi i13] [bx b0]))) := by
  induction k_ with
  | zero => exact fun _ _ _ _ => g0
  | succ k_ ih => exact fun _ _ _ _ => gA (g1 (g1 (g2 fun _ => g1 g4 (g1 (g1 g4 (ih _ _ _ _)) g0)) g0) g4) (by kernel_rfl)
theorem o5 : ZE c5 L5 (ZP Tryz.f5) := GoodAll.ok (l := [l5_0, l5_1, l5_2, l5_3]) (.cons 1 (by kernel_rfl) (gd1 (fun st => ((((br st 1).length : Nat) : Int) - ((sv st 5).I)).toNat + 1) (fun st => t5_0 _ _ _ _ _ _ _) fun st => by kernel_rfl) (.cons 0 (by kernel_rfl) (gd1 (fun st => ((((gl (bc st 0) 4).length : Nat) : Int) - ((sv st 3).I)).toNat + 1) (fun st => t5_1 _ _ _ _ _) fun st => by kernel_rfl) (.cons 2 (by kernel_rfl) (gd0 (fun st => ((((gl (bc st 0) 1).length : Nat) : Int) - ((sv st 3).I)).toNat + 1) (fun st => t5_2 _ _ _ _ _) fun st => by kernel_rfl) (.cons 3 (by kernel_rfl) (gd1 (fun st => ((((gl (bc st 0) 5).length : Nat) : Int) - ((sv st 3).I)).toNat + 1) (fun st => t5_3 _ _ _ _ _) fun st => by kernel_rfl) (.nil))))) rfl
set_option maxRecDepth 100000 in
noncomputable def e5 : En Tryz.prog tab := enP base [e15, e16, e17, e11, e10, e18] false [] Tryz.func5 (L := L5) o5 [(.one (.inl Zc))] (fun a => ZcB ((rd a 0).L)) (fun r_ : Bool => ((V.bool r_), [])) [] [] [some Zc] false (by kernel_rfl) fun _ => gA (g2 fun _ => g2 fun _ => g1 (g2 fun _ => g1 g4 g4) (g2 fun _ => g1 g4 (g2 fun _ => g2 fun _ => g1 g4 g4))) (by kernel_rfl)
end Go.Eng.R
open Go Go.Eng
namespace Go.Eng.R
def W_Row (x : V) : Prop := LW Zcu (gl x 0) ∧ LW Zcu (gl x 1) ∧ I64 (gi x 2) ∧ I64 (gi x 3)
def W_Tomb (x : V) : Prop := LW Zcu (gl x 0) ∧ I64 (gi x 1)
def W_Session (x : V) : Prop := I64 (gi x 0) ∧ True
def W_Last (x : V) : Prop := I64 (gi x 0) ∧ I64 (gi x 1) ∧ I64 (gi x 2) ∧ I64 (gi x 3)
def Za9 (x : V) : Prop := I64 (gi x 0) ∧ LW W_Row (gl x 1) ∧ LW W_Tomb (gl x 2) ∧ I64 (gi x 3) ∧ LW W_Session (gl x 4) ∧ LW W_Last (gl x 5)
end Go.Eng.R
open Go Go.Eng
namespace Go.Eng.R
theorem ZcF (n lo hi : Int) : ZC n lo hi = decide (lo ≤ n ∧ n ≤ hi) := by
  unfold ZC
  by_cases h : lo ≤ n <;> simp [h]
theorem within_nt (n lo hi : Int) : ZC n lo hi = (!decide (n < lo) && !decide (hi < n)) := by
  rw [ZcF]
  by_cases h1 : n < lo
  · rw [decide_eq_true h1, decide_eq_false (by omega)]; rfl
  · by_cases h2 : hi < n
    · rw [decide_eq_true h2, decide_eq_false (by omega)]; simp
    · rw [decide_eq_false h1, decide_eq_false h2, decide_eq_true (by omega)]; rfl
theorem le_nt (a b : Int) : decide (a ≤ b) = !decide (b < a) := by
  by_cases h : a ≤ b
  · rw [decide_eq_true h, decide_eq_false (by omega)]; rfl
  · rw [decide_eq_false h, decide_eq_true (by omega)]; rfl
theorem Zdk {k n : Nat} (h0 : ¬ k = 0) (h : k ≤ n) (hn : n ≤ 9223372036854775807) : IntKind.i64.wrap ((k : Int) - 1) = ((k - 1 : Nat) : Int) := by rw [ZaC (by omega) (by omega)]; omega
end Go.Eng.R
open Go Go.Eng
namespace Go.Eng.R
def chB (x : V) : Bool := !decide (gi x 0 < 97) && !decide (122 < gi x 0) || decide (gi x 0 = 47)
theorem all_take_succ {p : V → Bool} {l : List V} {i : Nat} (h : i < l.length) : (l.take (i + 1)).all p = ((l.take i).all p && p (rd l i)) := by
  rw [List.take_add_one, List.all_append]
  have : l[i]? = some (rd l i) := by simp [rd, List.getD, h]
  rw [this]; simp
theorem all_rd_false {p : V → Bool} {l : List V} {i : Nat} (h : i < l.length) (hp : p (rd l i) = false) : l.all p = false := by
  rw [List.all_eq_false]
  refine ⟨rd l i, ?_, by simp [hp]⟩
  have : rd l i = l[i] := by simp [rd, List.getD, h]
  rw [this]; exact List.getElem_mem h
theorem all_loop {ρ : Type} {F : Nat → Int → ρ} {l : List V} {p : V → Bool} {yes no : ρ}
    (h1 : ∀ m (i : Nat), i < l.length → F (m + 1) (i : Int) = bif p (rd l i) then F m ((i + 1 : Nat) : Int) else no) (h0 : ∀ m, F (m + 1) (l.length : Int) = yes) :
    F (l.length + 1) 0 = bif l.all p then yes else no := by
  refine ZbS (F := fun m (_ : Unit) i => F m i) (n := l.length) (fun i _ => (l.take i).all p = true) (fun o => o = bif l.all p then yes else no) ?_ ?_ (s := ()) (by simp)
  · intro m i s hi hI
    rw [h1 m i hi]
    cases hp : p (rd l i) with
    | true => exact .inl ⟨(), rfl, by rw [all_take_succ hi, hI, hp]; rfl⟩
    | false => exact .inr (by rw [all_rd_false hi hp]; rfl)
  · intro m s hI
    rw [List.take_length] at hI
    rw [hI]; exact h0 m
def keyB (b : List V) : Bool := decide (1 ≤ b.length) && (decide (b.length ≤ 20) && b.all chB)
theorem spec_l2key_eq {b : List V} (hb : LW Zcu b) : ZdA b = some (keyB b) := by
  have hl := hb.1
  unfold ZdA keyB
  by_cases h1 : 1 ≤ b.length
  · by_cases h2 : b.length ≤ 20
    · rw [show decide (((b.length : Nat) : Int) < 1) = false from by simp; omega, show decide ((20 : Int) < ((b.length : Nat) : Int)) = false from by simp; omega, cond_false, cond_false, ZaT,
        all_loop (F := fun m i => Zbb m b i) (l := b) (p := chB) (yes := some (1, false)) (no := some (0, false)) ?_ ?_]
      · simp only [h1, h2, decide_true, Bool.true_and]
        cases b.all chB <;> rfl
      · intro m i hi
        simp only [Zbb, Z7 hi, Zo hi, Int.toNat_natCast, cond_true, Z0 hi hl, chB]
        cases decide (gi (rd b i) 0 < 97) <;> cases decide (122 < gi (rd b i) 0) <;> cases decide (gi (rd b i) 0 = 47) <;> rfl
      · intro m; simp only [Zbb, ZX, cond_false]
    · rw [show decide (((b.length : Nat) : Int) < 1) = false from by simp; omega, show decide ((20 : Int) < ((b.length : Nat) : Int)) = true from by simp; omega]
      simp [h2]
  · rw [show decide (((b.length : Nat) : Int) < 1) = true from by simp; omega]
    simp [h1]
theorem ZdQ {b : List V} (hb : LW Zcu b) : Zbj b = some (keyB b) := by
  have hl := hb.1
  unfold Zbj keyB
  rw [ZaT, all_loop (F := fun m i => Zbc m b b ((b.length : Nat) : Int) i) (l := b) (p := chB) (yes := some (1, b, false)) (no := some (0, b, false)) ?_ ?_]
  · cases b.all chB with
    | true => simp only [cond_true, Option.bind_some, ZcF]; simp [Nat.beq]; by_cases h1 : 1 ≤ b.length <;> by_cases h2 : b.length ≤ 20 <;> simp [h1, h2] <;> omega
    | false => simp [Nat.beq]
  · intro m i hi
    simp only [Zbc, Z7 hi, Zo hi, Int.toNat_natCast, cond_true, Z0 hi hl, chB]
    cases decide (gi (rd b i) 0 < 97) <;> cases decide (122 < gi (rd b i) 0) <;> cases decide (gi (rd b i) 0 = 47) <;> rfl
  · intro m; simp only [Zbc, ZX, cond_false]
end Go.Eng.R
open Go Go.Eng
namespace Go.Eng.R
def fI (l : List V) (id : Int) : Int := match Zs (fun i => decide (gi (rd l i) 0 = id)) 0 l.length with | some j => (j : Int) | none => -1
def fK (l : List V) (k : List V) : Int := match Zs (fun i => neq (gl (rd l i) 0) k) 0 l.length with | some j => (j : Int) | none => -1
theorem ZdF {s : V} (hl : (gl s 4).length ≤ 9223372036854775807) (id : Int) : Zbh (Za s) id = some (fI (gl s 4) id) := by
  unfold Zbh fI
  simp only [show gl (Za s) 4 = gl s 4 from rfl, show Za (Za s) = Za s from rfl]
  rw [ZaT, show (0 : Int) = ((0 : Nat) : Int) from rfl, Zch (F := fun m i => Zbs m id i (Za s)) (n := (gl s 4).length) (q := fun i => decide (gi (rd (gl s 4) i) 0 = id)) (out := fun j => some (0, j)) (no := some (1, 0)) ?_ ?_ ((gl s 4).length + 1) 0 (by omega) (by omega)]
  · rw [Nat.sub_zero]
    cases Zs (fun i => decide (gi (rd (gl s 4) i) 0 = id)) 0 (gl s 4).length <;> rfl
  · intro m i hi
    simp only [Zbs, show gl (Za s) 4 = gl s 4 from rfl, show Za (Za s) = Za s from rfl, Z7 hi, Zo hi, Int.toNat_natCast, cond_true, Z0 hi hl]
  · intro m; simp only [Zbs, show gl (Za s) 4 = gl s 4 from rfl, ZX, cond_false]
theorem impl_session_eq {s : V} (hl : (gl s 4).length ≤ 9223372036854775807) (id : Int) : ZaZ (Za s) id = some (fI (gl s 4) id) := by
  unfold ZaZ Zb3 fI
  rw [show gl (Za s) 4 = gl s 4 from rfl, ZaT, show (0 : Int) = ((0 : Nat) : Int) from rfl, Zch (F := fun m i => ZZ m (gl s 4) (V.agg [(V.int .i64 (gi (V.agg [(V.int .i64 id)]) 0))]) (((gl s 4).length : Nat) : Int) i) (n := (gl s 4).length) (q := fun i => decide (gi (rd (gl s 4) i) 0 = id)) (out := fun j => some (0, j)) (no := some (1, 0)) ?_ ?_ ((gl s 4).length + 1) 0 (by omega) (by omega)]
  · rw [Nat.sub_zero]
    cases Zs (fun i => decide (gi (rd (gl s 4) i) 0 = id)) 0 (gl s 4).length <;> rfl
  · intro m i hi
    simp only [ZZ, Z7 hi, Zo hi, Int.toNat_natCast, cond_true, Z0 hi hl]
    rfl
  · intro m; simp only [ZZ, ZX, cond_false]
theorem Zde {s : V} (hl : (gl s 1).length ≤ 9223372036854775807) (k : List V) : ZaQ (Za s) k = some (fK (gl s 1) k) := by
  unfold ZaQ fK
  simp only [show gl (Za s) 1 = gl s 1 from rfl, show Za (Za s) = Za s from rfl]
  rw [ZaT, show (0 : Int) = ((0 : Nat) : Int) from rfl, Zch (F := fun m i => ZbJ m k i (Za s)) (n := (gl s 1).length) (q := fun i => neq (gl (rd (gl s 1) i) 0) k) (out := fun j => some (0, j)) (no := some (1, 0)) ?_ ?_ ((gl s 1).length + 1) 0 (by omega) (by omega)]
  · rw [Nat.sub_zero]
    cases Zs (fun i => neq (gl (rd (gl s 1) i) 0) k) 0 (gl s 1).length <;> rfl
  · intro m i hi
    simp only [ZbJ, show gl (Za s) 1 = gl s 1 from rfl, show Za (Za s) = Za s from rfl, Z7 hi, Zo hi, Int.toNat_natCast, cond_true, Z0 hi hl]
    rfl
  · intro m; simp only [ZbJ, show gl (Za s) 1 = gl s 1 from rfl, ZX, cond_false]
theorem spec_l2tomb_eq {s : V} (hl : (gl s 2).length ≤ 9223372036854775807) (k : List V) : ZcQ (Za s) k = some (fK (gl s 2) k) := by
  unfold ZcQ fK
  simp only [show gl (Za s) 2 = gl s 2 from rfl, show Za (Za s) = Za s from rfl]
  rw [ZaT, show (0 : Int) = ((0 : Nat) : Int) from rfl, Zch (F := fun m i => Zbr m k i (Za s)) (n := (gl s 2).length) (q := fun i => neq (gl (rd (gl s 2) i) 0) k) (out := fun j => some (0, j)) (no := some (1, 0)) ?_ ?_ ((gl s 2).length + 1) 0 (by omega) (by omega)]
  · rw [Nat.sub_zero]
    cases Zs (fun i => neq (gl (rd (gl s 2) i) 0) k) 0 (gl s 2).length <;> rfl
  · intro m i hi
    simp only [Zbr, show gl (Za s) 2 = gl s 2 from rfl, show Za (Za s) = Za s from rfl, Z7 hi, Zo hi, Int.toNat_natCast, cond_true, Z0 hi hl]
    rfl
  · intro m; simp only [Zbr, show gl (Za s) 2 = gl s 2 from rfl, ZX, cond_false]
theorem impl_tomb_eq {s : V} (hl : (gl s 2).length ≤ 9223372036854775807) (k : List V) : Zci (Za s) k = some (fK (gl s 2) k) := by
  unfold Zci Zcz fK
  rw [show gl (Za s) 2 = gl s 2 from rfl, ZaT, show (0 : Int) = ((0 : Nat) : Int) from rfl, Zch (F := fun m i => Z8 m (gl s 2) (V.agg [(V.inl Zc (gl (V.agg [(V.inl Zc k)]) 0))]) (((gl s 2).length : Nat) : Int) i) (n := (gl s 2).length) (q := fun i => neq (gl (rd (gl s 2) i) 0) k) (out := fun j => some (0, j)) (no := some (1, 0)) ?_ ?_ ((gl s 2).length + 1) 0 (by omega) (by omega)]
  · rw [Nat.sub_zero]
    cases Zs (fun i => neq (gl (rd (gl s 2) i) 0) k) 0 (gl s 2).length <;> rfl
  · intro m i hi
    simp only [Z8, Z7 hi, Zo hi, Int.toNat_natCast, cond_true, Z0 hi hl]
    rfl
  · intro m; simp only [Z8, ZX, cond_false]
theorem nlt_def (a b : List V) : ZbK (a.map Zau) (b.map Zau) = nlt a b := rfl
theorem bsK_eq {S : List V} (hS : S.length ≤ 4194304) (ha : AscN (fun r => gl r 0) S) (t : List V) : Za4 S t = some (((lbN (fun r => gl r 0) S t : Nat) : Int), hasN (fun r => gl r 0) S t) := by
  unfold Za4
  have hle := lbN_le (fun r => gl r 0) S t
  rw [ZaT, show (0 : Int) = ((0 : Nat) : Int) from rfl, bs_loop (F := fun m i j => ZG m S t ((S.length : Nat) : Int) i j) (x := S) (p := fun r => nlt (gl r 0) t) (n0 := lbN (fun r => gl r 0) S t) (out := fun i => some (S, t, ((S.length : Nat) : Int), i)) (by omega) (lbN_spec ha t) ?_ ?_ (S.length + 1) 0 S.length (by omega) hle (by omega) (by omega)]
  · simp only [Option.bind_some]
    unfold hasN
    by_cases hc : lbN (fun r => gl r 0) S t < S.length
    · rw [Z7 hc, cond_true, Zo hc, cond_true, Int.toNat_natCast, decide_eq_true hc, Bool.true_and]
      congr 2
      exact cmpV_zero' _ _
    · rw [decide_eq_false (p := ((lbN (fun r => gl r 0) S t : Nat) : Int) < ((S.length : Nat) : Int)) (by omega), decide_eq_false hc]
      rfl
  · intro m i j hij hj
    have hw := wr_mid (i := i) (j := j) (by omega)
    simp only [ZG, hw]
    rw [Z7 hij, cond_true, Zo (show (i + j) / 2 < S.length by omega), cond_true, Int.toNat_natCast, Z0 (n := S.length) (show (i + j) / 2 < S.length by omega) (by omega)]
    rw [show decide (ZcK (n_impl_Row (rd S ((i + j) / 2))) t < 0) = nlt (gl (rd S ((i + j) / 2)) 0) t from cmpV_neg _ _]
  · intro m i; simp only [ZG, ZX, cond_false]
theorem impl_row_eq {s : V} (hS : (gl s 1).length ≤ 4194304) (ha : AscN (fun r => gl r 0) (gl s 1)) (t : List V) : ZbY (Za s) t = some (((lbN (fun r => gl r 0) (gl s 1) t : Nat) : Int), hasN (fun r => gl r 0) (gl s 1) t) := by
  unfold ZbY
  rw [show gl (Za s) 1 = gl s 1 from rfl, bsK_eq hS ha]
  rfl
theorem hasN_fK {l : List V} (h : AscN (fun r => gl r 0) l) (t : List V) : hasN (fun r => gl r 0) l t = decide (0 ≤ fK l t) := by
  have := find_asc h t
  unfold fK
  rw [this]
  cases hasN (fun r => gl r 0) l t with
  | false => rfl
  | true => exact (decide_eq_true (by simp)).symm
def rowB (s : V) (i : Nat) : Bool := keyB (gl (rd (gl s 1) i) 0) && (!decide (20 < (((gl (rd (gl s 1) i) 1).length : Nat) : Int)) && (!decide (gi (rd (gl s 1) i) 2 < 1) && (!decide (gi s 0 < gi (rd (gl s 1) i) 2) &&
  ((decide (gi (rd (gl s 1) i) 3 = 0) || !decide (fI (gl s 4) (gi (rd (gl s 1) i) 3) < 0)) && (decide (i = 0) || nlt (gl (rd (gl s 1) (i - 1)) 0) (gl (rd (gl s 1) i) 0))))))
def tombB (s : V) (i : Nat) : Bool := keyB (gl (rd (gl s 2) i) 0) && (!decide (0 ≤ fK (gl s 1) (gl (rd (gl s 2) i) 0)) && (decide (fK (gl s 2) (gl (rd (gl s 2) i) 0) = (i : Int)) && (!decide (gi (rd (gl s 2) i) 1 < 1) && (!decide (gi s 0 < gi (rd (gl s 2) i) 1) &&
  (!decide (gi (rd (gl s 2) i) 1 < gi s 3) && (decide (i = 0) || !decide (gi (rd (gl s 2) i) 1 < gi (rd (gl s 2) (i - 1)) 1)))))))
def sessB (s : V) (i : Nat) : Bool := !decide (gi (rd (gl s 4) i) 0 < 1) && (!decide (gi s 0 < gi (rd (gl s 4) i) 0) && (decide (i = 0) || decide (gi (rd (gl s 4) (i - 1)) 0 < gi (rd (gl s 4) i) 0)))
def lastB (s : V) (i : Nat) : Bool := decide (0 ≤ gi (rd (gl s 5) i) 0 ∧ gi (rd (gl s 5) i) 0 ≤ 3 ∧ 1 ≤ gi (rd (gl s 5) i) 1 ∧ gi (rd (gl s 5) i) 1 ≤ 1000000 ∧ 0 ≤ gi (rd (gl s 5) i) 2 ∧ gi (rd (gl s 5) i) 2 ≤ 5 ∧ 1 ≤ gi (rd (gl s 5) i) 3 ∧ gi (rd (gl s 5) i) 3 ≤ gi s 0) &&
  (decide (i = 0) || decide (gi (rd (gl s 5) (i - 1)) 0 < gi (rd (gl s 5) i) 0))
def headB (s : V) : Bool := decide (0 ≤ gi s 0 ∧ gi s 0 ≤ 1000000 ∧ 0 ≤ gi s 3 ∧ gi s 3 ≤ gi s 0 ∧ (gl s 1).length ≤ 20 ∧ (gl s 2).length ≤ 10 ∧ (gl s 4).length ≤ 8 ∧ (gl s 5).length ≤ 4)
def Zam (s : V) : Bool := headB s && ((List.range (gl s 1).length).all (rowB s) && ((List.range (gl s 2).length).all (tombB s) && ((List.range (gl s 4).length).all (sessB s) && (List.range (gl s 5).length).all (lastB s))))
theorem rowB_asc {s : V} (h : (List.range (gl s 1).length).all (rowB s) = true) : AscN (fun r => gl r 0) (gl s 1) := by
  intro i hi
  rw [List.all_eq_true] at h
  have := h (i + 1) (List.mem_range.2 hi)
  unfold rowB at this
  simp only [Bool.and_eq_true] at this
  simpa using this.2.2.2.2.2
theorem spec_rows_eq {s : V} (hs : Za9 s) : Zaj ((gl s 1).length + 1) 0 (Za s) = bif (List.range (gl s 1).length).all (rowB s) then some (1, false, Za s) else some (0, false, Za s) := by
  have hl := hs.2.1.1
  have hk := hs.2.2.2.2.1.1
  refine ZcY (F := fun m i => Zaj m i (Za s)) (n := (gl s 1).length) (q := rowB s) (yes := some (1, false, Za s)) (no := some (0, false, Za s)) ?_ ?_
  · intro m i hi
    have hw := hs.2.1.rd hi
    simp only [Zaj, show gl (Za s) 1 = gl s 1 from rfl, show gi (Za s) 0 = gi s 0 from rfl, show Za (Za s) = Za s from rfl, Z7 hi, Zo hi, Int.toNat_natCast, cond_true, Z0 hi hl, spec_l2key_eq hw.1, Option.bind_some, ZdF hk, spec_l2val, le_nt, Bool.not_not, nlt_def]
    unfold rowB
    cases keyB (gl (rd (gl s 1) i) 0) <;> try rfl
    cases decide ((20 : Int) < (((gl (rd (gl s 1) i) 1).length : Nat) : Int)) <;> try rfl
    cases decide (gi (rd (gl s 1) i) 2 < 1) <;> try rfl
    cases decide (gi s 0 < gi (rd (gl s 1) i) 2) <;> try rfl
    by_cases h0 : i = 0
    · subst h0
      rw [decide_eq_false (p := (0 : Int) < ((0 : Nat) : Int)) (by omega)]
      cases decide (gi (rd (gl s 1) 0) 3 = 0) <;> cases decide (fI (gl s 4) (gi (rd (gl s 1) 0) 3) < 0) <;> rfl
    · rw [decide_eq_true (p := (0 : Int) < (i : Int)) (by omega), Zdk h0 (Nat.le_of_lt hi) hl, Zo (show i - 1 < (gl s 1).length by omega), Int.toNat_natCast, decide_eq_false h0]
      cases decide (gi (rd (gl s 1) i) 3 = 0) <;> cases decide (fI (gl s 4) (gi (rd (gl s 1) i) 3) < 0) <;> cases nlt (gl (rd (gl s 1) (i - 1)) 0) (gl (rd (gl s 1) i) 0) <;> rfl
  · intro m; simp only [Zaj, show gl (Za s) 1 = gl s 1 from rfl, ZX, cond_false]; rfl
theorem impl_rows_eq {s : V} (hs : Za9 s) : Zak ((gl s 1).length + 1) (gl s 1) (((gl s 1).length : Nat) : Int) 0 (Za s) = bif (List.range (gl s 1).length).all (rowB s) then some (1, false, Za s) else some (0, false, Za s) := by
  have hl := hs.2.1.1
  have hk := hs.2.2.2.2.1.1
  refine ZcY (F := fun m i => Zak m (gl s 1) (((gl s 1).length : Nat) : Int) i (Za s)) (n := (gl s 1).length) (q := rowB s) (yes := some (1, false, Za s)) (no := some (0, false, Za s)) ?_ ?_
  · intro m i hi
    have hw := hs.2.1.rd hi
    simp only [Zak, show gl (Za s) 1 = gl s 1 from rfl, show gi (Za s) 0 = gi s 0 from rfl, show Za (Za s) = Za s from rfl, Z7 hi, Zo hi, Int.toNat_natCast, cond_true, Z0 hi hl, ZdQ hw.1, Option.bind_some, impl_session_eq hk, Zcy, within_nt, le_nt _ (20 : Int), Bool.not_not, cmpV_nonneg]
    unfold rowB
    cases keyB (gl (rd (gl s 1) i) 0) <;> try rfl
    cases decide ((20 : Int) < (((gl (rd (gl s 1) i) 1).length : Nat) : Int)) <;> try rfl
    cases decide (gi (rd (gl s 1) i) 2 < 1) <;> try rfl
    cases decide (gi s 0 < gi (rd (gl s 1) i) 2) <;> try rfl
    by_cases h0 : i = 0
    · subst h0
      rw [decide_eq_false (p := (0 : Int) < ((0 : Nat) : Int)) (by omega)]
      cases decide (gi (rd (gl s 1) 0) 3 = 0) <;> cases decide (fI (gl s 4) (gi (rd (gl s 1) 0) 3) < 0) <;> rfl
    · rw [decide_eq_true (p := (0 : Int) < (i : Int)) (by omega), Zdk h0 (Nat.le_of_lt hi) hl, Zo (show i - 1 < (gl s 1).length by omega)]
      simp only [Int.toNat_natCast, decide_eq_false h0]
      cases decide (gi (rd (gl s 1) i) 3 = 0) <;> cases decide (fI (gl s 4) (gi (rd (gl s 1) i) 3) < 0) <;> cases nlt (gl (rd (gl s 1) (i - 1)) 0) (gl (rd (gl s 1) i) 0) <;> rfl
  · intro m; simp only [Zak, ZX, cond_false]; rfl
theorem spec_tombs_eq {s : V} (hs : Za9 s) : ZaE ((gl s 2).length + 1) 0 (Za s) = bif (List.range (gl s 2).length).all (tombB s) then some (1, false, Za s) else some (0, false, Za s) := by
  have hr := hs.2.1.1
  have hl := hs.2.2.1.1
  refine ZcY (F := fun m i => ZaE m i (Za s)) (n := (gl s 2).length) (q := tombB s) (yes := some (1, false, Za s)) (no := some (0, false, Za s)) ?_ ?_
  · intro m i hi
    have hw := hs.2.2.1.rd hi
    simp only [ZaE, show gl (Za s) 2 = gl s 2 from rfl, show gi (Za s) 0 = gi s 0 from rfl, show gi (Za s) 3 = gi s 3 from rfl, show Za (Za s) = Za s from rfl, Z7 hi, Zo hi, Int.toNat_natCast, cond_true, Z0 hi hl, spec_l2key_eq hw.1, Option.bind_some, Zde hr, spec_l2tomb_eq hl]
    unfold tombB
    cases keyB (gl (rd (gl s 2) i) 0) <;> try rfl
    cases decide (0 ≤ fK (gl s 1) (gl (rd (gl s 2) i) 0)) <;> try rfl
    cases decide (fK (gl s 2) (gl (rd (gl s 2) i) 0) = (i : Int)) <;> try rfl
    cases decide (gi (rd (gl s 2) i) 1 < 1) <;> try rfl
    cases decide (gi s 0 < gi (rd (gl s 2) i) 1) <;> try rfl
    cases decide (gi (rd (gl s 2) i) 1 < gi s 3) <;> try rfl
    by_cases h0 : i = 0
    · subst h0
      rw [decide_eq_false (p := (0 : Int) < ((0 : Nat) : Int)) (by omega)]
      rfl
    · rw [decide_eq_true (p := (0 : Int) < (i : Int)) (by omega), Zdk h0 (Nat.le_of_lt hi) hl, Zo (show i - 1 < (gl s 2).length by omega), Int.toNat_natCast, decide_eq_false h0]
      cases decide (gi (rd (gl s 2) i) 1 < gi (rd (gl s 2) (i - 1)) 1) <;> rfl
  · intro m; simp only [ZaE, show gl (Za s) 2 = gl s 2 from rfl, ZX, cond_false]; rfl
theorem mx_eq (a b : Int) : mxI a b = max a b := by
  unfold mxI
  by_cases h : a < b <;> simp [h] <;> omega
theorem impl_tombs_eq {s : V} (hs : Za9 s) (hS : (gl s 1).length ≤ 4194304) (ha : AscN (fun r => gl r 0) (gl s 1)) : ZaH ((gl s 2).length + 1) (mxI 1 (gi s 3)) (gl s 2) (((gl s 2).length : Nat) : Int) 0 (Za s) = bif (List.range (gl s 2).length).all (tombB s) then some (1, false, Za s) else some (0, false, Za s) := by
  have hr := hs.2.1.1
  have hl := hs.2.2.1.1
  refine ZbS (F := fun m (b : Int) i => ZaH m b (gl s 2) (((gl s 2).length : Nat) : Int) i (Za s)) (n := (gl s 2).length) (fun i b => (List.range i).all (tombB s) = true ∧ (b = if i = 0 then max 1 (gi s 3) else gi (rd (gl s 2) (i - 1)) 1) ∧ 1 ≤ b ∧ gi s 3 ≤ b)
    (fun o => o = bif (List.range (gl s 2).length).all (tombB s) then some (1, false, Za s) else some (0, false, Za s)) ?_ ?_ ⟨by simp, by rw [mx_eq]; simp, by rw [mx_eq]; omega, by rw [mx_eq]; omega⟩
  · intro m i b hi hI
    obtain ⟨hall, hb, hb1, hb2⟩ := hI
    have hw := hs.2.2.1.rd hi
    have hno : tombB s i = false → (List.range (gl s 2).length).all (tombB s) = false := fun h => by
      rw [List.all_eq_false]
      exact ⟨i, List.mem_range.2 hi, by simp [h]⟩
    simp only [ZaH, show gi (Za s) 0 = gi s 0 from rfl, show Za (Za s) = Za s from rfl, Z7 hi, Zo hi, Int.toNat_natCast, cond_true, Z0 hi hl, ZdQ hw.1, Option.bind_some, impl_row_eq hS ha, impl_tomb_eq hl, hasN_fK ha, ZcF]
    have ht : tombB s i = (keyB (gl (rd (gl s 2) i) 0) && (!decide (0 ≤ fK (gl s 1) (gl (rd (gl s 2) i) 0)) && (decide (fK (gl s 2) (gl (rd (gl s 2) i) 0) = (i : Int)) && decide (b ≤ gi (rd (gl s 2) i) 1 ∧ gi (rd (gl s 2) i) 1 ≤ gi s 0)))) := by
      have e : (!decide (gi (rd (gl s 2) i) 1 < 1) && (!decide (gi s 0 < gi (rd (gl s 2) i) 1) && (!decide (gi (rd (gl s 2) i) 1 < gi s 3) && (decide (i = 0) || !decide (gi (rd (gl s 2) i) 1 < gi (rd (gl s 2) (i - 1)) 1))))) = decide (b ≤ gi (rd (gl s 2) i) 1 ∧ gi (rd (gl s 2) i) 1 ≤ gi s 0) := by
        rw [Bool.eq_iff_iff]
        simp only [Bool.and_eq_true, Bool.or_eq_true, Bool.not_eq_true', decide_eq_true_eq, decide_eq_false_iff_not]
        by_cases h0 : i = 0
        · subst h0
          simp only [if_true] at hb
          omega
        · rw [if_neg h0] at hb
          omega
      unfold tombB
      rw [e]
    by_cases hq : tombB s i = true
    · refine .inl ⟨gi (rd (gl s 2) i) 1, ?_, by rw [List.range_succ, List.all_append, hall]; simp [hq], by simp, ?_⟩
      · rw [ht] at hq
        simp only [Bool.and_eq_true, Bool.not_eq_true', decide_eq_true_eq] at hq
        obtain ⟨q1, q2, q3, q4⟩ := hq
        simp only [q1, q2, q3, cond_false, Bool.not_true, decide_eq_true q4, decide_true]
      · rw [ht] at hq
        simp only [Bool.and_eq_true, Bool.not_eq_true', decide_eq_true_eq] at hq
        omega
    · have hq : tombB s i = false := by simpa using hq
      refine .inr ?_
      rw [hno hq]
      rw [ht] at hq
      cases h1 : decide (0 ≤ fK (gl s 1) (gl (rd (gl s 2) i) 0)) <;> try rfl
      cases h2 : keyB (gl (rd (gl s 2) i) 0) <;> try rfl
      cases h3 : decide (fK (gl s 2) (gl (rd (gl s 2) i) 0) = (i : Int)) <;> try rfl
      cases h4 : decide (b ≤ gi (rd (gl s 2) i) 1 ∧ gi (rd (gl s 2) i) 1 ≤ gi s 0) <;> try rfl
      rw [h1, h2, h3, h4] at hq
      cases hq
  · intro m b hI
    show ZaH (m + 1) b (gl s 2) (((gl s 2).length : Nat) : Int) (((gl s 2).length : Nat) : Int) (Za s) = _
    rw [hI.1]
    simp only [ZaH, ZX, cond_false]; rfl
theorem spec_sess_eq {s : V} (hs : Za9 s) : ZaF ((gl s 4).length + 1) 0 (Za s) = bif (List.range (gl s 4).length).all (sessB s) then some (1, false, Za s) else some (0, false, Za s) := by
  have hl := hs.2.2.2.2.1.1
  refine ZcY (F := fun m i => ZaF m i (Za s)) (n := (gl s 4).length) (q := sessB s) (yes := some (1, false, Za s)) (no := some (0, false, Za s)) ?_ ?_
  · intro m i hi
    simp only [ZaF, show gl (Za s) 4 = gl s 4 from rfl, show gi (Za s) 0 = gi s 0 from rfl, show Za (Za s) = Za s from rfl, Z7 hi, Zo hi, Int.toNat_natCast, cond_true, Z0 hi hl]
    unfold sessB
    cases decide (gi (rd (gl s 4) i) 0 < 1) <;> try rfl
    cases decide (gi s 0 < gi (rd (gl s 4) i) 0) <;> try rfl
    by_cases h0 : i = 0
    · subst h0
      rw [decide_eq_false (p := (0 : Int) < ((0 : Nat) : Int)) (by omega)]
      rfl
    · rw [decide_eq_true (p := (0 : Int) < (i : Int)) (by omega), Zdk h0 (Nat.le_of_lt hi) hl, Zo (show i - 1 < (gl s 4).length by omega), Int.toNat_natCast, decide_eq_false h0, le_nt (gi (rd (gl s 4) i) 0)]
      cases decide (gi (rd (gl s 4) (i - 1)) 0 < gi (rd (gl s 4) i) 0) <;> rfl
  · intro m; simp only [ZaF, show gl (Za s) 4 = gl s 4 from rfl, ZX, cond_false]; rfl
theorem impl_sess_eq {s : V} (hs : Za9 s) : ZaI ((gl s 4).length + 1) (gl s 4) (((gl s 4).length : Nat) : Int) 0 (Za s) = bif (List.range (gl s 4).length).all (sessB s) then some (1, false, Za s) else some (0, false, Za s) := by
  have hl := hs.2.2.2.2.1.1
  refine ZcY (F := fun m i => ZaI m (gl s 4) (((gl s 4).length : Nat) : Int) i (Za s)) (n := (gl s 4).length) (q := sessB s) (yes := some (1, false, Za s)) (no := some (0, false, Za s)) ?_ ?_
  · intro m i hi
    simp only [ZaI, show gl (Za s) 4 = gl s 4 from rfl, show gi (Za s) 0 = gi s 0 from rfl, show Za (Za s) = Za s from rfl, Z7 hi, Zo hi, Int.toNat_natCast, cond_true, Z0 hi hl, within_nt]
    unfold sessB
    cases decide (gi (rd (gl s 4) i) 0 < 1) <;> try rfl
    cases decide (gi s 0 < gi (rd (gl s 4) i) 0) <;> try rfl
    by_cases h0 : i = 0
    · subst h0
      rw [decide_eq_false (p := (0 : Int) < ((0 : Nat) : Int)) (by omega)]
      rfl
    · rw [decide_eq_true (p := (0 : Int) < (i : Int)) (by omega), Zdk h0 (Nat.le_of_lt hi) hl, Zo (show i - 1 < (gl s 4).length by omega), Int.toNat_natCast, decide_eq_false h0, le_nt (gi (rd (gl s 4) i) 0)]
      cases decide (gi (rd (gl s 4) (i - 1)) 0 < gi (rd (gl s 4) i) 0) <;> rfl
  · intro m; simp only [ZaI, ZX, cond_false]; rfl
theorem lasts_cond {s : V} {i : Nat} : lastB s i = (decide (0 ≤ gi (rd (gl s 5) i) 0 ∧ gi (rd (gl s 5) i) 0 ≤ 3 ∧ 1 ≤ gi (rd (gl s 5) i) 1 ∧ gi (rd (gl s 5) i) 1 ≤ 1000000 ∧ 0 ≤ gi (rd (gl s 5) i) 2 ∧ gi (rd (gl s 5) i) 2 ≤ 5 ∧ 1 ≤ gi (rd (gl s 5) i) 3 ∧ gi (rd (gl s 5) i) 3 ≤ gi s 0) &&
  (decide (i = 0) || decide (gi (rd (gl s 5) (i - 1)) 0 < gi (rd (gl s 5) i) 0))) := rfl
theorem spec_lasts_eq {s : V} (hs : Za9 s) : ZaG ((gl s 5).length + 1) 0 (Za s) = bif (List.range (gl s 5).length).all (lastB s) then some (1, false) else some (0, false) := by
  have hl := hs.2.2.2.2.2.1
  refine ZcY (F := fun m i => ZaG m i (Za s)) (n := (gl s 5).length) (q := lastB s) (yes := some (1, false)) (no := some (0, false)) ?_ ?_
  · intro m i hi
    simp only [ZaG, show gl (Za s) 5 = gl s 5 from rfl, show gi (Za s) 0 = gi s 0 from rfl, show Za (Za s) = Za s from rfl, Z7 hi, Zo hi, Int.toNat_natCast, cond_true, Z0 hi hl]
    rw [lasts_cond]
    by_cases hc : 0 ≤ gi (rd (gl s 5) i) 0 ∧ gi (rd (gl s 5) i) 0 ≤ 3 ∧ 1 ≤ gi (rd (gl s 5) i) 1 ∧ gi (rd (gl s 5) i) 1 ≤ 1000000 ∧ 0 ≤ gi (rd (gl s 5) i) 2 ∧ gi (rd (gl s 5) i) 2 ≤ 5 ∧ 1 ≤ gi (rd (gl s 5) i) 3 ∧ gi (rd (gl s 5) i) 3 ≤ gi s 0
    · rw [decide_eq_true hc, decide_eq_false (p := gi (rd (gl s 5) i) 0 < 0) (by omega), decide_eq_false (p := (4 : Int) ≤ gi (rd (gl s 5) i) 0) (by omega), decide_eq_false (p := gi (rd (gl s 5) i) 1 < 1) (by omega), decide_eq_false (p := (1000000 : Int) < gi (rd (gl s 5) i) 1) (by omega), decide_eq_false (p := gi (rd (gl s 5) i) 2 < 0) (by omega), decide_eq_false (p := (5 : Int) < gi (rd (gl s 5) i) 2) (by omega), decide_eq_false (p := gi (rd (gl s 5) i) 3 < 1) (by omega), decide_eq_false (p := gi s 0 < gi (rd (gl s 5) i) 3) (by omega)]
      by_cases h0 : i = 0
      · subst h0
        rw [decide_eq_false (p := (0 : Int) < ((0 : Nat) : Int)) (by omega)]
        rfl
      · rw [decide_eq_true (p := (0 : Int) < (i : Int)) (by omega), Zdk h0 (Nat.le_of_lt hi) hl, Zo (show i - 1 < (gl s 5).length by omega)]
        simp only [Int.toNat_natCast, decide_eq_false h0, le_nt (gi (rd (gl s 5) i) 0)]
        cases decide (gi (rd (gl s 5) (i - 1)) 0 < gi (rd (gl s 5) i) 0) <;> rfl
    · rw [decide_eq_false hc, Bool.false_and, cond_false]
      cases h1 : decide (gi (rd (gl s 5) i) 0 < 0) <;> try rfl
      cases h2 : decide ((4 : Int) ≤ gi (rd (gl s 5) i) 0) <;> try rfl
      cases h3 : decide (gi (rd (gl s 5) i) 1 < 1) <;> try rfl
      cases h4 : decide ((1000000 : Int) < gi (rd (gl s 5) i) 1) <;> try rfl
      cases h5 : decide (gi (rd (gl s 5) i) 2 < 0) <;> try rfl
      cases h6 : decide ((5 : Int) < gi (rd (gl s 5) i) 2) <;> try rfl
      cases h7 : decide (gi (rd (gl s 5) i) 3 < 1) <;> try rfl
      cases h8 : decide (gi s 0 < gi (rd (gl s 5) i) 3) <;> try rfl
      simp only [decide_eq_false_iff_not] at h1 h2 h3 h4 h5 h6 h7 h8
      exact absurd (by omega) hc
  · intro m; simp only [ZaG, show gl (Za s) 5 = gl s 5 from rfl, ZX, cond_false]
theorem impl_lasts_eq {s : V} (hs : Za9 s) : ZaJ ((gl s 5).length + 1) (gl s 5) (((gl s 5).length : Nat) : Int) 0 (Za s) = bif (List.range (gl s 5).length).all (lastB s) then some (1, false) else some (0, false) := by
  have hl := hs.2.2.2.2.2.1
  refine ZcY (F := fun m i => ZaJ m (gl s 5) (((gl s 5).length : Nat) : Int) i (Za s)) (n := (gl s 5).length) (q := lastB s) (yes := some (1, false)) (no := some (0, false)) ?_ ?_
  · intro m i hi
    simp only [ZaJ, show gl (Za s) 5 = gl s 5 from rfl, show gi (Za s) 0 = gi s 0 from rfl, show Za (Za s) = Za s from rfl, Z7 hi, Zo hi, Int.toNat_natCast, cond_true, Z0 hi hl, ZcF]
    rw [lasts_cond]
    by_cases hc : 0 ≤ gi (rd (gl s 5) i) 0 ∧ gi (rd (gl s 5) i) 0 ≤ 3 ∧ 1 ≤ gi (rd (gl s 5) i) 1 ∧ gi (rd (gl s 5) i) 1 ≤ 1000000 ∧ 0 ≤ gi (rd (gl s 5) i) 2 ∧ gi (rd (gl s 5) i) 2 ≤ 5 ∧ 1 ≤ gi (rd (gl s 5) i) 3 ∧ gi (rd (gl s 5) i) 3 ≤ gi s 0
    · rw [decide_eq_true hc, decide_eq_true (p := 0 ≤ gi (rd (gl s 5) i) 0 ∧ gi (rd (gl s 5) i) 0 ≤ 3) (by omega), decide_eq_true (p := 1 ≤ gi (rd (gl s 5) i) 1 ∧ gi (rd (gl s 5) i) 1 ≤ 1000000) (by omega), decide_eq_true (p := 0 ≤ gi (rd (gl s 5) i) 2 ∧ gi (rd (gl s 5) i) 2 ≤ 5) (by omega), decide_eq_true (p := 1 ≤ gi (rd (gl s 5) i) 3 ∧ gi (rd (gl s 5) i) 3 ≤ gi s 0) (by omega)]
      by_cases h0 : i = 0
      · subst h0
        rw [decide_eq_false (p := (0 : Int) < ((0 : Nat) : Int)) (by omega)]
        rfl
      · rw [decide_eq_true (p := (0 : Int) < (i : Int)) (by omega), Zdk h0 (Nat.le_of_lt hi) hl, Zo (show i - 1 < (gl s 5).length by omega)]
        simp only [Int.toNat_natCast, decide_eq_false h0, le_nt (gi (rd (gl s 5) i) 0)]
        cases decide (gi (rd (gl s 5) (i - 1)) 0 < gi (rd (gl s 5) i) 0) <;> rfl
    · rw [decide_eq_false hc, Bool.false_and, cond_false]
      cases h1 : decide (0 ≤ gi (rd (gl s 5) i) 0 ∧ gi (rd (gl s 5) i) 0 ≤ 3) <;> try rfl
      cases h2 : decide (1 ≤ gi (rd (gl s 5) i) 1 ∧ gi (rd (gl s 5) i) 1 ≤ 1000000) <;> try rfl
      cases h3 : decide (0 ≤ gi (rd (gl s 5) i) 2 ∧ gi (rd (gl s 5) i) 2 ≤ 5) <;> try rfl
      cases h4 : decide (1 ≤ gi (rd (gl s 5) i) 3 ∧ gi (rd (gl s 5) i) 3 ≤ gi s 0) <;> try rfl
      rw [decide_eq_true_eq] at h1 h2 h3 h4
      exact absurd (by omega) hc
  · intro m; simp only [ZaJ, ZX, cond_false]
theorem spec_StateOk_eq {s : V} (hs : Za9 s) : ZdB (Za s) = some (Zam s) := by
  unfold ZdB Zam
  simp only [show gl (Za s) 1 = gl s 1 from rfl, show gl (Za s) 2 = gl s 2 from rfl, show gl (Za s) 4 = gl s 4 from rfl, show gl (Za s) 5 = gl s 5 from rfl, show gi (Za s) 0 = gi s 0 from rfl, show gi (Za s) 3 = gi s 3 from rfl, show Za (Za s) = Za s from rfl, ZaT]
  have h0 : Zdz (gi s 0) = decide (0 ≤ gi s 0 ∧ gi s 0 ≤ 1000000) := by
    unfold Zdz
    by_cases h : 0 ≤ gi s 0 <;> simp [h]
  rw [h0]
  by_cases hh : 0 ≤ gi s 0 ∧ gi s 0 ≤ 1000000 ∧ 0 ≤ gi s 3 ∧ gi s 3 ≤ gi s 0 ∧ (gl s 1).length ≤ 20 ∧ (gl s 2).length ≤ 10 ∧ (gl s 4).length ≤ 8 ∧ (gl s 5).length ≤ 4
  · rw [show headB s = true from decide_eq_true hh, decide_eq_true (p := 0 ≤ gi s 0 ∧ gi s 0 ≤ 1000000) (by omega), decide_eq_false (p := (20 : Int) < (((gl s 1).length : Nat) : Int)) (by omega), decide_eq_false (p := (10 : Int) < (((gl s 2).length : Nat) : Int)) (by omega), decide_eq_false (p := gi s 3 < 0) (by omega), decide_eq_false (p := gi s 0 < gi s 3) (by omega), decide_eq_false (p := (8 : Int) < (((gl s 4).length : Nat) : Int)) (by omega), decide_eq_false (p := (4 : Int) < (((gl s 5).length : Nat) : Int)) (by omega)]
    simp only [Bool.not_true, cond_false, Bool.true_and, spec_rows_eq hs]
    cases (List.range (gl s 1).length).all (rowB s) <;> simp only [cond_true, cond_false, Option.bind_some] <;> try rfl
    simp only [show Nat.beq 1 0 = false from rfl, cond_false, show Za (Za s) = Za s from rfl, show gl (Za s) 2 = gl s 2 from rfl, spec_tombs_eq hs]
    cases (List.range (gl s 2).length).all (tombB s) <;> simp only [cond_true, cond_false, Option.bind_some] <;> try rfl
    simp only [show Nat.beq 1 0 = false from rfl, cond_false, show Za (Za s) = Za s from rfl, show gl (Za s) 4 = gl s 4 from rfl, spec_sess_eq hs]
    cases (List.range (gl s 4).length).all (sessB s) <;> simp only [cond_true, cond_false, Option.bind_some] <;> try rfl
    simp only [show Nat.beq 1 0 = false from rfl, cond_false, show Za (Za s) = Za s from rfl, show gl (Za s) 5 = gl s 5 from rfl, spec_lasts_eq hs]
    cases (List.range (gl s 5).length).all (lastB s) <;> rfl
  · rw [show headB s = false from decide_eq_false hh, Bool.false_and]
    cases h1 : decide (0 ≤ gi s 0 ∧ gi s 0 ≤ 1000000) <;> try rfl
    cases h2 : decide ((20 : Int) < (((gl s 1).length : Nat) : Int)) <;> try rfl
    cases h3 : decide ((10 : Int) < (((gl s 2).length : Nat) : Int)) <;> try rfl
    cases h4 : decide (gi s 3 < 0) <;> try rfl
    cases h5 : decide (gi s 0 < gi s 3) <;> try rfl
    cases h6 : decide ((8 : Int) < (((gl s 4).length : Nat) : Int)) <;> try rfl
    cases h7 : decide ((4 : Int) < (((gl s 5).length : Nat) : Int)) <;> try rfl
    simp only [decide_eq_false_iff_not, decide_eq_true_eq] at h1 h2 h3 h4 h5 h6 h7
    exact absurd (by omega) hh
theorem ZcT {s : V} (hs : Za9 s) : ZcA (Za s) = some (Zam s) := by
  unfold ZcA Zam
  simp only [show gl (Za s) 1 = gl s 1 from rfl, show gl (Za s) 2 = gl s 2 from rfl, show gl (Za s) 4 = gl s 4 from rfl, show gl (Za s) 5 = gl s 5 from rfl, show gi (Za s) 0 = gi s 0 from rfl, show gi (Za s) 3 = gi s 3 from rfl, show Za (Za s) = Za s from rfl, ZaT, ZcF]
  by_cases hh : 0 ≤ gi s 0 ∧ gi s 0 ≤ 1000000 ∧ 0 ≤ gi s 3 ∧ gi s 3 ≤ gi s 0 ∧ (gl s 1).length ≤ 20 ∧ (gl s 2).length ≤ 10 ∧ (gl s 4).length ≤ 8 ∧ (gl s 5).length ≤ 4
  · rw [show headB s = true from decide_eq_true hh, decide_eq_true (p := 0 ≤ gi s 0 ∧ gi s 0 ≤ 1000000) (by omega), decide_eq_true (p := 0 ≤ gi s 3 ∧ gi s 3 ≤ gi s 0) (by omega), decide_eq_false (p := (20 : Int) < (((gl s 1).length : Nat) : Int)) (by omega), decide_eq_false (p := (10 : Int) < (((gl s 2).length : Nat) : Int)) (by omega), decide_eq_false (p := (8 : Int) < (((gl s 4).length : Nat) : Int)) (by omega), decide_eq_false (p := (4 : Int) < (((gl s 5).length : Nat) : Int)) (by omega)]
    simp only [Bool.not_true, cond_false, Bool.true_and, impl_rows_eq hs]
    cases hr : (List.range (gl s 1).length).all (rowB s) <;> simp only [cond_true, cond_false, Option.bind_some] <;> try rfl
    simp only [show Nat.beq 1 0 = false from rfl, cond_false, show Za (Za s) = Za s from rfl, show gl (Za s) 2 = gl s 2 from rfl, show gi (Za s) 3 = gi s 3 from rfl, impl_tombs_eq hs (by omega) (rowB_asc hr)]
    cases (List.range (gl s 2).length).all (tombB s) <;> simp only [cond_true, cond_false, Option.bind_some] <;> try rfl
    simp only [show Nat.beq 1 0 = false from rfl, cond_false, show Za (Za s) = Za s from rfl, show gl (Za s) 4 = gl s 4 from rfl, impl_sess_eq hs]
    cases (List.range (gl s 4).length).all (sessB s) <;> simp only [cond_true, cond_false, Option.bind_some] <;> try rfl
    simp only [show Nat.beq 1 0 = false from rfl, cond_false, show Za (Za s) = Za s from rfl, show gl (Za s) 5 = gl s 5 from rfl, impl_lasts_eq hs]
    cases (List.range (gl s 5).length).all (lastB s) <;> rfl
  · rw [show headB s = false from decide_eq_false hh, Bool.false_and]
    cases h1 : decide (0 ≤ gi s 0 ∧ gi s 0 ≤ 1000000) <;> try rfl
    cases h4 : decide (0 ≤ gi s 3 ∧ gi s 3 ≤ gi s 0) <;> try rfl
    cases h2 : decide ((20 : Int) < (((gl s 1).length : Nat) : Int)) <;> try rfl
    cases h3 : decide ((10 : Int) < (((gl s 2).length : Nat) : Int)) <;> try rfl
    cases h6 : decide ((8 : Int) < (((gl s 4).length : Nat) : Int)) <;> try rfl
    cases h7 : decide ((4 : Int) < (((gl s 5).length : Nat) : Int)) <;> try rfl
    simp only [decide_eq_false_iff_not, decide_eq_true_eq] at h1 h2 h3 h4 h6 h7
    exact absurd (by omega) hh
end Go.Eng.R
open Go Go.Eng
namespace Go.Eng.R
def Ok {α : Type} (P : α → Prop) (o : Option α) : Prop := ∃ x, o = some x ∧ P x
theorem Ok.bind {α β : Type} {P : β → Prop} {Q : α → Prop} {o : Option α} {f : α → Option β} (h : Ok Q o) (g : ∀ x, Q x → Ok P (f x)) : Ok P (Option.bind o f) := by
  obtain ⟨x, rfl, hx⟩ := h
  exact g x hx
theorem Ok.ret {α : Type} {P : α → Prop} {x : α} (h : P x) : Ok P (some x) := ⟨x, rfl, h⟩
theorem Ok.chk {α : Type} {P : α → Prop} {b : Bool} {x : Option α} (h : b = true) (g : Ok P x) : Ok P (bif b then x else none) := by subst h; exact g
theorem Ok.ite {α : Type} {P : α → Prop} {b : Bool} {x y : Option α} (g1 : b = true → Ok P x) (g2 : b = false → Ok P y) : Ok P (bif b then x else y) := by
  cases b with
  | true => exact g1 rfl
  | false => exact g2 rfl
theorem Ok.iteT {α : Type} {P : α → Prop} {b : Bool} {x y : Option α} (h : b = true) (g : Ok P x) : Ok P (bif b then x else y) := by subst h; exact g
theorem Ok.iteF {α : Type} {P : α → Prop} {b : Bool} {x y : Option α} (h : b = false) (g : Ok P y) : Ok P (bif b then x else y) := by subst h; exact g
def Ok2 {α β : Type} (P : α → β → Prop) (o : Option (α × β)) : Prop := ∃ x y, o = some (x, y) ∧ P x y
theorem Ok.bind2 {α β γ : Type} {P : γ → Prop} {Q : α → β → Prop} {o : Option (α × β)} {f : α × β → Option γ} (h : Ok2 Q o) (g : ∀ x y, Q x y → Ok P (f (x, y))) : Ok P (Option.bind o f) := by
  obtain ⟨x, y, rfl, hx⟩ := h
  exact g x y hx
theorem Ok2.of {α β : Type} {Q : α → β → Prop} {o : Option (α × β)} (h : Ok (fun r => Q r.1 r.2) o) : Ok2 Q o := by
  obtain ⟨⟨x, y⟩, e, hx⟩ := h
  exact ⟨x, y, e, hx⟩
theorem wrI (n : Int) : I64 (IntKind.i64.wrap n) := by unfold I64; rw [IntKind.wrap_i64]; omega
theorem LW.snoc {W : V → Prop} {l : List V} {x : V} (h : LW W l) (hl : l.length < 9223372036854775807) (hx : W x) : LW W (l ++ [x]) := by
  refine ⟨by simp; omega, fun y hy => ?_⟩
  rcases List.mem_append.1 hy with hy | hy
  · exact h.2 y hy
  · simp at hy; subst hy; exact hx
theorem LW.set' {W : V → Prop} {l : List V} {x : V} (h : LW W l) (j : Nat) (hx : W x) : LW W (l.set j x) := by
  refine ⟨by simpa using h.1, fun y hy => ?_⟩
  rcases List.mem_or_eq_of_mem_set hy with hy | hy
  · exact h.2 y hy
  · subst hy; exact hx
theorem idx_of {i : Int} {n : Nat} (h0 : 0 ≤ i) (h1 : i < (n : Int)) : Zm i n = true := by simp [Zm]; omega
theorem room_of {n b : Nat} (h : n * b ≤ 140737488355328) (h1 : n ≤ 9223372036854775807) : (Zv n b && true) = true := by rw [roomy_of h h1]; rfl
def allI : List V → Prop
  | [] => True
  | x :: l => I64 (gi x 0) ∧ allI l
theorem allI_rd : ∀ {l : List V}, allI l → ∀ j, j < l.length → I64 (gi (rd l j) 0)
  | [], _, j, h => by simp at h
  | x :: l, ⟨h, _⟩, 0, _ => h
  | x :: l, ⟨_, h⟩, j + 1, hj => allI_rd h j (by simpa using hj)
theorem gi_v0 (k : IntKind) (n : Int) : gi (V.int k n) 0 = n := rfl
theorem LW.takeL {W : V → Prop} {l : List V} (h : LW W l) (n : Nat) : LW W (l.take n) := ⟨by have := h.1; rw [List.length_take]; omega, fun x hx => h.2 x (List.mem_of_mem_take hx)⟩
theorem LW.dropL {W : V → Prop} {l : List V} (h : LW W l) (n : Nat) : LW W (l.drop n) := ⟨by have := h.1; rw [List.length_drop]; omega, fun x hx => h.2 x (List.mem_of_mem_drop hx)⟩
theorem W_int.mk {n : Int} (h : I64 n) : W_int (V.int .i64 n) := h
end Go.Eng.R
open Go Go.Eng
namespace Go.Eng.R
theorem bAnd_le (a : Int) {b : Int} (h0 : 0 ≤ b) (h1 : b ≤ 9223372036854775807) : 0 ≤ bAnd .i64 a b ∧ bAnd .i64 a b ≤ b := by
  unfold bAnd
  have e : (BitVec.ofInt (IntKind.bits .i64) b).toNat = b.toNat := by
    rw [BitVec.toNat_ofInt]
    rw [Int.emod_eq_of_lt h0 (by show b < ((2 ^ 64 : Nat) : Int); omega)]
  have h : (BitVec.ofInt (IntKind.bits .i64) a &&& BitVec.ofInt (IntKind.bits .i64) b).toNat ≤ b.toNat := by
    rw [BitVec.toNat_and, e]
    exact Nat.and_le_right
  rw [ZaC (by omega) (by omega)]
  omega
def Z1 (c : V) : Prop := LW Zcu (gl c 0) ∧ 0 ≤ gi c 1 ∧ gi c 1 ≤ (((gl c 0).length : Nat) : Int)
theorem byte_ok {c : V} (h : Z1 c) : ∃ x c', ZbT (Zb c) = some (x, c') ∧ Z1 c' ∧ 0 ≤ x ∧ x ≤ 255 ∧ gl c' 0 = gl c 0 := by
  obtain ⟨h1, h2, h3⟩ := h
  have hl := h1.1
  unfold ZbT
  simp only [show gl (Zb c) 0 = gl c 0 from rfl, show gi (Zb c) 1 = gi c 1 from rfl]
  by_cases hc : gi c 1 < (((gl c 0).length : Nat) : Int)
  · rw [decide_eq_true hc, show Zm (gi c 1) (gl c 0).length = true from by simp [Zm]; omega]
    simp only [cond_true]
    refine ⟨_, _, rfl, ⟨h1, ?_, ?_⟩, (bAnd_le _ (by decide) (by decide)).1, (bAnd_le _ (by decide) (by decide)).2, rfl⟩
    · show 0 ≤ IntKind.i64.wrap (gi c 1 + 1)
      rw [ZaC (by omega) (by omega)]; omega
    · show IntKind.i64.wrap (gi c 1 + 1) ≤ _
      rw [ZaC (by omega) (by omega)]; show gi c 1 + 1 ≤ (((gl c 0).length : Nat) : Int); omega
  · rw [decide_eq_false hc]
    simp only [cond_false]
    exact ⟨_, _, rfl, ⟨h1, h2, h3⟩, (bAnd_le _ (by decide) (by decide)).1, (bAnd_le _ (by decide) (by decide)).2, rfl⟩
theorem tmod_lt {x n : Int} (hx : 0 ≤ x) (hn : 0 < n) : 0 ≤ x.tmod n ∧ x.tmod n < n := by
  rw [Int.tmod_eq_emod_of_nonneg hx]
  exact ⟨Int.emod_nonneg _ (by omega), Int.emod_lt_of_pos _ hn⟩
theorem below_ok {c : V} (h : Z1 c) {n : Int} (hn : 0 < n) : ∃ x c', Zh (Zb c) n = some (x, c') ∧ Z1 c' ∧ 0 ≤ x ∧ x < n := by
  unfold Zh
  rw [decide_eq_false (p := n ≤ 0) (by omega), decide_eq_false (p := n = 0) (by omega)]
  simp only [cond_false, show Zb (Zb c) = Zb c from rfl]
  obtain ⟨x, c', e, h', x0, x1, -⟩ := byte_ok h
  by_cases h2 : n ≤ 256
  · rw [decide_eq_true h2, e]
    exact ⟨_, _, rfl, h', (tmod_lt x0 hn).1, (tmod_lt x0 hn).2⟩
  · rw [decide_eq_false h2, e]
    obtain ⟨x2, c2, e2, h2', y0, y1, -⟩ := byte_ok h'
    obtain ⟨x3, c3, e3, h3', z0', z1, -⟩ := byte_ok h2'
    obtain ⟨x4, c4, e4, h4', w0, w1, -⟩ := byte_ok h3'
    simp only [Option.bind_some, e2, e3, e4, cond_false, Bool.not_false, cond_true]
    have hs : IntKind.i64.wrap (IntKind.i64.wrap (IntKind.i64.wrap (IntKind.i64.wrap (x * 16777216) + IntKind.i64.wrap (x2 * 65536)) + IntKind.i64.wrap (x3 * 256)) + x4) = x * 16777216 + x2 * 65536 + x3 * 256 + x4 := by
      rw [ZaC (n := x * 16777216) (by omega) (by omega), ZaC (n := x2 * 65536) (by omega) (by omega), ZaC (n := x3 * 256) (by omega) (by omega), ZaC (n := x * 16777216 + x2 * 65536) (by omega) (by omega), ZaC (n := x * 16777216 + x2 * 65536 + x3 * 256) (by omega) (by omega), ZaC (by omega) (by omega)]
    rw [hs]
    have hm := tmod_lt (x := x * 16777216 + x2 * 65536 + x3 * 256 + x4) (by omega) hn
    exact ⟨_, _, rfl, h4', hm.1, hm.2⟩
theorem pick_ok {c : V} (h : Z1 c) {l : List V} (hl : 0 < l.length) : ∃ j c', Za3 (Zb c) l = some (gi (rd l j) 0, c') ∧ Z1 c' ∧ j < l.length := by
  obtain ⟨x, c', e, h', x0, x1⟩ := below_ok h (n := ((l.length : Nat) : Int)) (by omega)
  unfold Za3
  rw [show Zb (Zb c) = Zb c from rfl, e]
  simp only [Option.bind_some]
  rw [show Zm x l.length = true from by simp [Zm]; omega]
  exact ⟨x.toNat, _, rfl, h', by omega⟩
theorem new_ok {code : List V} (h : LW Zcu code) : ∃ c, Zdx code = some c ∧ Z1 c := by
  unfold Zdx
  rw [ZaT]
  have key := ZbS (F := fun m s i => ZbI m code s i) (n := code.length) (I := fun _ _ => True) (Q := fun r => ∃ s, r = some (code, s)) ?_ ?_ (s := IntKind.i64.wrap (36565 + ((code.length : Nat) : Int))) trivial
  · obtain ⟨s, e⟩ := key
    refine ⟨_, congrArg (fun o => Option.bind o _) e, h, by show (0 : Int) ≤ 0; decide, by show (0 : Int) ≤ ((code.length : Nat) : Int); omega⟩
  · intro m i s hi _
    simp only [ZbI, Z7 hi, Zo hi, cond_true, Z0 hi h.1]
    by_cases h4 : (i : Int) < 4000
    · rw [decide_eq_true h4]; exact .inl ⟨_, rfl, trivial⟩
    · rw [decide_eq_false h4]; exact .inr ⟨_, rfl⟩
  · intro m s _
    simp only [ZbI, ZX, cond_false]
    exact ⟨_, rfl⟩
theorem tmod_O {x n : Int} (h0 : 0 ≤ x) (h1 : 0 < n) : 0 ≤ x.tmod n ∧ x.tmod n ≤ x ∧ x.tmod n < n := by
  have := tmod_lt h0 h1
  refine ⟨this.1, ?_, this.2⟩
  rw [Int.tmod_eq_emod_of_nonneg h0]
  have h2 := Int.mul_ediv_add_emod x n
  have h3 : 0 ≤ n * (x / n) := Int.mul_nonneg (by omega) (Int.ediv_nonneg h0 (by omega))
  omega
theorem below_O {c : V} (h : Z1 c) (n : Int) : Ok (fun r => Z1 r.2 ∧ 0 ≤ r.1 ∧ r.1 ≤ 4294967295 ∧ (r.1 < n ∨ r.1 = 0)) (Zh (Zb c) n) := by
  by_cases hn : 0 < n
  · unfold Zh
    rw [decide_eq_false (p := n ≤ 0) (by omega), decide_eq_false (p := n = 0) (by omega)]
    simp only [cond_false, show Zb (Zb c) = Zb c from rfl]
    obtain ⟨x, c', e, h', x0, x1, -⟩ := byte_ok h
    by_cases h2 : n ≤ 256
    · rw [decide_eq_true h2, e]
      obtain ⟨m0, m1, m2⟩ := tmod_O x0 hn
      exact ⟨_, rfl, h', m0, by show x.tmod n ≤ _; omega, .inl m2⟩
    · rw [decide_eq_false h2, e]
      obtain ⟨x2, c2, e2, h2', y0, y1, -⟩ := byte_ok h'
      obtain ⟨x3, c3, e3, h3', z0', z1, -⟩ := byte_ok h2'
      obtain ⟨x4, c4, e4, h4', w0, w1, -⟩ := byte_ok h3'
      simp only [Option.bind_some, e2, e3, e4, cond_false, Bool.not_false, cond_true]
      have hs : IntKind.i64.wrap (IntKind.i64.wrap (IntKind.i64.wrap (IntKind.i64.wrap (x * 16777216) + IntKind.i64.wrap (x2 * 65536)) + IntKind.i64.wrap (x3 * 256)) + x4) = x * 16777216 + x2 * 65536 + x3 * 256 + x4 := by
        rw [ZaC (n := x * 16777216) (by omega) (by omega), ZaC (n := x2 * 65536) (by omega) (by omega), ZaC (n := x3 * 256) (by omega) (by omega), ZaC (n := x * 16777216 + x2 * 65536) (by omega) (by omega), ZaC (n := x * 16777216 + x2 * 65536 + x3 * 256) (by omega) (by omega), ZaC (by omega) (by omega)]
      rw [hs]
      obtain ⟨m0, m1, m2⟩ := tmod_O (x := x * 16777216 + x2 * 65536 + x3 * 256 + x4) (by omega) hn
      exact ⟨_, rfl, h4', m0, by show Int.tmod _ n ≤ _; omega, .inl m2⟩
  · unfold Zh
    rw [decide_eq_true (p := n ≤ 0) (by omega)]
    exact ⟨_, rfl, h, by show (0 : Int) ≤ 0; omega, by show (0 : Int) ≤ 4294967295; omega, .inr rfl⟩
theorem once_O {c : V} (h : Z1 c) (n : Int) : Ok (fun r => Z1 r.2) (Za0 (Zb c) n) := by
  obtain ⟨x, e, h', -⟩ := below_O h n
  unfold Za0
  rw [show Zb (Zb c) = Zb c from rfl, e]
  exact ⟨_, rfl, h'⟩
theorem pick_O {c : V} (h : Z1 c) {l : List V} (hl : 0 < l.length) (ha : allI l) : Ok (fun r => Z1 r.2 ∧ I64 r.1) (Za3 (Zb c) l) := by
  obtain ⟨j, c', e, h1, h2⟩ := pick_ok h hl
  exact ⟨_, e, h1, allI_rd ha j h2⟩
theorem new_O {code : List V} (h : LW Zcu code) : Ok Z1 (Zdx code) := by
  obtain ⟨c, e, h1⟩ := new_ok h
  exact ⟨_, e, h1⟩
theorem nn_cur (c : V) : Zb (Zb c) = Zb c := rfl
theorem ZbF {c : V} (h : Z1 c) (n : Int) : Ok2 (fun x c => Z1 c ∧ 0 ≤ x ∧ x ≤ 4294967295 ∧ (x < n ∨ x = 0)) (Zh (Zb c) n) := .of (below_O h n)
theorem pick_P {c : V} (h : Z1 c) {l : List V} (hl : 0 < l.length) (ha : allI l) : Ok2 (fun x c => Z1 c ∧ I64 x) (Za3 (Zb c) l) := .of (pick_O h hl ha)
end Go.Eng.R
open Go Go.Eng
namespace Go.Eng.R
set_option maxRecDepth 100000
def BS (l : List V) : Prop := LW Zcu l ∧ l.length ≤ 20
def bsB (l : List V) : Bool := l.all (fun x => decide (0 ≤ gi x 0 ∧ gi x 0 ≤ 255)) && decide (l.length ≤ 20)
theorem bsB_spec {l : List V} (h : bsB l = true) : BS l := by
  unfold bsB at h
  simp only [Bool.and_eq_true, List.all_eq_true, decide_eq_true_eq] at h
  exact ⟨⟨by omega, fun x hx => h.1 x hx⟩, h.2⟩
theorem BS.nil : BS [] := bsB_spec rfl
def bsAll (l : List V) : Bool := l.all fun x => bsB (gs x 0)
theorem bsAll_rd {l : List V} (h : bsAll l = true) {j : Nat} (hj : j < l.length) : BS (gs (rd l j) 0) := by
  unfold bsAll at h
  rw [List.all_eq_true] at h
  refine bsB_spec (h _ ?_)
  rw [rd_eq hj]; exact List.getElem_mem hj
theorem drawVal_O {c : V} (h : Z1 c) : Ok2 (fun x c => Z1 c ∧ BS x) (ZbX (Zb c)) := by
  unfold ZbX
  refine .of ?_
  have h' : Z1 (Zb c) := h
  ((repeat' (((with_reducible refine (id ?_ : Ok _ _)); first | (with_reducible refine Ok.chk (by (first | (refine idx_of ?_ ?_ <;> (try simp only) <;> omega) | (refine room_of ?_ ?_ <;> (try simp only [List.length_set, List.length_append, List.length_cons, List.length_nil, List.length_replicate, Nat.zero_add]) <;> omega) | assumption | (simp; done) | (simp; omega))) ?_) | ((with_reducible refine Ok.iteT ?_ ?_); (next => first | exact decide_eq_true (by with_reducible rfl) | (refine congrArg not (decide_eq_false ?_); intro h; revert h; dsimp only; decide))) | ((with_reducible refine Ok.iteF ?_ ?_); (next => first | (refine decide_eq_false ?_; intro h; revert h; dsimp only; decide) | exact congrArg not (decide_eq_true (by with_reducible rfl)))) | (with_reducible refine Ok.ite (fun _ => ?_) (fun _ => ?_) <;> (rename_i h; try simp only [decide_eq_true_eq, decide_eq_false_iff_not, Bool.not_eq_true', Bool.not_eq_false', Int.not_lt, Int.not_le] at h)) | (((with_reducible refine Ok.bind2 (ZbF (by assumption) _) ?_); rintro _ _ ⟨_, _, _, _⟩)) | with_reducible refine Ok.ret ?_))))
  exact ⟨by assumption, bsAll_rd rfl (by simp; omega)⟩
theorem drawKey_O {c : V} (h : Z1 c) : Ok2 (fun x c => Z1 c ∧ BS x) (ZaM (Zb c)) := by
  unfold ZaM
  refine .of ?_
  have h' : Z1 (Zb c) := h
  ((repeat' (((with_reducible refine (id ?_ : Ok _ _)); first | (with_reducible refine Ok.chk (by (first | (refine idx_of ?_ ?_ <;> (try simp only) <;> omega) | (refine room_of ?_ ?_ <;> (try simp only [List.length_set, List.length_append, List.length_cons, List.length_nil, List.length_replicate, Nat.zero_add]) <;> omega) | assumption | (simp; done) | (simp; omega))) ?_) | ((with_reducible refine Ok.iteT ?_ ?_); (next => first | exact decide_eq_true (by with_reducible rfl) | (refine congrArg not (decide_eq_false ?_); intro h; revert h; dsimp only; decide))) | ((with_reducible refine Ok.iteF ?_ ?_); (next => first | (refine decide_eq_false ?_; intro h; revert h; dsimp only; decide) | exact congrArg not (decide_eq_true (by with_reducible rfl)))) | (with_reducible refine Ok.ite (fun _ => ?_) (fun _ => ?_) <;> (rename_i h; try simp only [decide_eq_true_eq, decide_eq_false_iff_not, Bool.not_eq_true', Bool.not_eq_false', Int.not_lt, Int.not_le] at h)) | (((with_reducible refine Ok.bind2 (ZbF (by assumption) _) ?_); rintro _ _ ⟨_, _, _, _⟩)) | with_reducible refine Ok.ret ?_))))
  exact ⟨by assumption, bsAll_rd rfl (by simp; omega)⟩
end Go.Eng.R
open Go Go.Eng
namespace Go.Eng.R
set_option maxRecDepth 100000
structure SD where
  idx : Int
  rows : List V
  tombs : List V
  lost : Int
  sess : List V
  lasts : List V
def SD.v (s : SD) : V := V.agg [(V.int .i64 s.idx), (V.inl Zg s.rows), (V.inl Zf s.tombs), (V.int .i64 s.lost), (V.inl Zd s.sess), (V.inl Ze s.lasts)]
def SD.b (s : SD) (a b c d : Nat) : V := V.agg [(V.int .i64 s.idx), (V.sl a Zg 0 none), (V.sl b Zf 0 none), (V.int .i64 s.lost), (V.sl c Zd 0 none), (V.sl d Ze 0 none)]
def rowV (k v : List V) (t h : Int) : V := V.agg [(V.inl Zc k), (V.inl Zc v), (V.int .i64 t), (V.int .i64 h)]
def tombV (k : List V) (i : Int) : V := V.agg [(V.inl Zc k), (V.int .i64 i)]
def sessV (i : Int) (d : Bool) : V := V.agg [(V.int .i64 i), (V.bool d)]
def lastV (c r co i : Int) : V := V.agg [(V.int .i64 c), (V.int .i64 r), (V.int .i64 co), (V.int .i64 i)]
def rmAt (l : List V) (i : Nat) : List V := l.take i ++ l.drop (i + 1)
def insAt (l : List V) (i : Nat) (x : V) : List V := l.take i ++ [x] ++ l.drop i
theorem rmAt_len {l : List V} {i : Nat} (h : i < l.length) : (rmAt l i).length = l.length - 1 := by unfold rmAt; rw [List.length_append, List.length_take, List.length_drop]; omega
theorem insAt_len {l : List V} {i : Nat} {x : V} (h : i ≤ l.length) : (insAt l i x).length = l.length + 1 := by unfold insAt; rw [List.length_append, List.length_append, List.length_take, List.length_drop, List.length_singleton]; omega
theorem rdSetEq {l : List V} {j : Nat} (h : j < l.length) (x : V) : rd (l.set j x) j = x := by simp [rd, List.getD, h]
theorem rdSetNe {l : List V} {i j : Nat} (h : j ≠ i) (x : V) : rd (l.set i x) j = rd l j := by simp [rd, List.getD, Ne.symm h]
theorem Zac {n b : Nat} (h : n * b ≤ 140737488355328) (h1 : n ≤ 9223372036854775807) : (Zv n b && true) = true := by rw [roomy_of h h1]; rfl
theorem leT {i n : Nat} (h : i ≤ n) : (decide ((0 : Int) ≤ (i : Int)) && decide ((i : Int) ≤ ((n : Nat) : Int))) = true := by
  rw [decide_eq_true (show (0 : Int) ≤ (i : Int) by omega), decide_eq_true (show (i : Int) ≤ ((n : Nat) : Int) by omega)]; rfl
theorem dropAll (l : List V) (n : Nat) : (l.drop n).take (l.length - n) = l.drop n := List.take_of_length_le (by rw [List.length_drop]; exact Nat.le_refl _)
def ZcC (l : List V) (k : List V) : Nat := match Zs (fun i => !nlt (gl (rd l i) 0) k) 0 l.length with | some j => j | none => l.length
def SD.bury (s : SD) (i : Nat) : SD :=
  bif decide (10 < s.tombs.length + 1) then { s with rows := rmAt s.rows i, tombs := (s.tombs ++ [tombV (gl (rd s.rows i) 0) s.idx]).drop 1, lost := gi (rd (s.tombs ++ [tombV (gl (rd s.rows i) 0) s.idx]) 0) 1 }
  else { s with rows := rmAt s.rows i, tombs := s.tombs ++ [tombV (gl (rd s.rows i) 0) s.idx] }
theorem spec_bury_eq {s : SD} {i : Nat} (hi : i < s.rows.length) (hr : s.rows.length ≤ 1000) (ht : s.tombs.length ≤ 9) : Zcw s.v (i : Int) = some (s.bury i).v := by
  unfold Zcw
  have e1 : IntKind.i64.wrap ((i : Int) + 1) = ((i + 1 : Nat) : Int) := by rw [ZaC (by omega) (by omega)]; omega
  simp only [show gl s.v 1 = s.rows from rfl, show gl s.v 2 = s.tombs from rfl, show gl s.v 4 = s.sess from rfl, show gl s.v 5 = s.lasts from rfl, show gi s.v 0 = s.idx from rfl, show gi s.v 3 = s.lost from rfl, e1, Zo hi, leT (Nat.le_of_lt hi), leT (show i + 1 ≤ s.rows.length from hi), Int.toNat_natCast, Nat.zero_add, dropAll, cond_true, List.length_take, List.length_drop]
  rw [Zac (by omega) (by omega), Zac (by omega) (by omega), Zac (by omega) (by omega), Zac (by omega) (by omega)]
  simp only [cond_true]
  have hl : (s.tombs ++ [V.agg [V.inl Zc (gl (rd s.rows i) 0), V.int .i64 s.idx]]).length = s.tombs.length + 1 := by rw [List.length_append, List.length_singleton]
  have e2 : ∀ n, ZbL (n + 1) (s.b 1 2 3 4) (rmAt s.rows i) (s.tombs ++ [V.agg [V.inl Zc (gl (rd s.rows i) 0), V.int .i64 s.idx]]) s.sess s.lasts = some (s.b 1 2 3 4, rmAt s.rows i, s.tombs ++ [V.agg [V.inl Zc (gl (rd s.rows i) 0), V.int .i64 s.idx]], s.sess, s.lasts) := fun n => by
    rw [ZbL, hl, show decide ((10 : Int) < ((s.tombs.length + 1 : Nat) : Int)) = false from decide_eq_false (by omega)]; rfl
  refine Eq.trans (congrArg (fun o => Option.bind o _) (show _ = _ from e2 _)) ?_
  unfold SD.bury
  rw [decide_eq_false (show ¬ 10 < s.tombs.length + 1 by omega)]
  rfl
def SD.put (s : SD) (key val : List V) : Bool × SD :=
  match Zs (fun i => neq (gl (rd s.rows i) 0) key) 0 s.rows.length with
  | some j => (true, { s with rows := s.rows.set j (rowV (gl (rd s.rows j) 0) val s.idx (gi (rd s.rows j) 3)) })
  | none => bif decide (20 ≤ s.rows.length) then (false, s) else
    (true, { s with rows := insAt s.rows (ZcC s.rows key) (rowV key val s.idx 0), tombs := match Zs (fun i => neq (gl (rd s.tombs i) 0) key) 0 s.tombs.length with | some j => rmAt s.tombs j | none => s.tombs })
theorem fK_some {l k : List V} {j : Nat} (h : Zs (fun i => neq (gl (rd l i) 0) k) 0 l.length = some j) : fK l k = (j : Int) := by unfold fK; rw [h]
theorem fK_none {l k : List V} (h : Zs (fun i => neq (gl (rd l i) 0) k) 0 l.length = none) : fK l k = -1 := by unfold fK; rw [h]
theorem fK_lt {l k : List V} {j : Nat} (h : Zs (fun i => neq (gl (rd l i) 0) k) 0 l.length = some j) : j < l.length := by
  have := ZaL h; omega
theorem firstGe_le (l k : List V) : ZcC l k ≤ l.length := by
  unfold ZcC
  cases h : Zs (fun i => !nlt (gl (rd l i) 0) k) 0 l.length with
  | none => exact Nat.le_refl _
  | some j => have := ZaL h; show j ≤ _; omega
theorem spec_put_l12 {s : SD} {key val : List V} {r1 r2 r3 r4 : List V} (hr : r1.length ≤ 1000) : ZU (r1.length + 1) key val 0 (s.b 1 2 3 4) r1 r2 r3 r4 = some (key, val, ((ZcC r1 key : Nat) : Int), s.b 1 2 3 4, r1, r2, r3, r4) := by
  unfold ZcC
  rw [show (0 : Int) = ((0 : Nat) : Int) from rfl, Zch (F := fun m i => ZU m key val i (s.b 1 2 3 4) r1 r2 r3 r4) (n := r1.length) (q := fun i => !nlt (gl (rd r1 i) 0) key) (out := fun j => some (key, val, j, s.b 1 2 3 4, r1, r2, r3, r4)) (no := some (key, val, ((r1.length : Nat) : Int), s.b 1 2 3 4, r1, r2, r3, r4)) ?_ ?_ (r1.length + 1) 0 (by omega) (by omega), Nat.sub_zero]
  · cases Zs (fun i => !nlt (gl (rd r1 i) 0) key) 0 r1.length <;> rfl
  · intro m i hi
    show ZU (m + 1) key val (i : Int) (s.b 1 2 3 4) r1 r2 r3 r4 = _
    rw [ZU]
    simp only [Z7 hi, Zo hi, Int.toNat_natCast, Nat.zero_add, cond_true, Z0 hi (show r1.length ≤ 9223372036854775807 by omega), nlt_def]
    cases nlt (gl (rd r1 i) 0) key <;> rfl
  · intro m
    show ZU (m + 1) key val ((r1.length : Nat) : Int) (s.b 1 2 3 4) r1 r2 r3 r4 = _
    rw [ZU, ZX]; rfl
theorem spec_put_eq {s : SD} {key val : List V} (hr : s.rows.length ≤ 1000) (ht : s.tombs.length ≤ 1000) (hk : key.length ≤ 1000) (hv : val.length ≤ 1000) : Z5 s.v key val = some ((s.put key val).1, (s.put key val).2.v) := by
  have er : ZaQ (Za s.v) key = some (fK s.rows key) := Zde (s := s.v) (show s.rows.length ≤ _ by omega) key
  have et : ZcQ (Za s.v) key = some (fK s.tombs key) := spec_l2tomb_eq (s := s.v) (show s.tombs.length ≤ _ by omega) key
  unfold Z5 SD.put
  rw [er]
  cases hf : Zs (fun i => neq (gl (rd s.rows i) 0) key) 0 s.rows.length with
  | some j =>
    have hj := fK_lt hf
    rw [fK_some hf]
    simp only [Option.bind_some, show gl s.v 1 = s.rows from rfl, Int.toNat_natCast, Nat.zero_add, List.length_set, Zo hj, rdSetEq hj, List.set_set, cond_true]
    rw [decide_eq_true (show (0 : Int) ≤ (j : Int) by omega), Zac (by omega) (by omega)]
    rfl
  | none =>
    rw [fK_none hf]
    simp only [Option.bind_some, show gl s.v 1 = s.rows from rfl, show gl s.v 2 = s.tombs from rfl, show gl s.v 4 = s.sess from rfl, show gl s.v 5 = s.lasts from rfl, et]
    rw [show decide ((0 : Int) ≤ -1) = false from rfl]
    simp only [cond_false]
    by_cases h20 : 20 ≤ s.rows.length
    · rw [decide_eq_true h20, show decide ((20 : Int) ≤ ((s.rows.length : Nat) : Int)) = true from decide_eq_true (by omega)]; rfl
    rw [decide_eq_false h20, show decide ((20 : Int) ≤ ((s.rows.length : Nat) : Int)) = false from decide_eq_false (by omega)]
    simp only [cond_false]
    have hg := firstGe_le s.rows key
    have tail : ∀ (tb : List V), (Option.bind (ZU (((((s.rows).length : Nat) : Int) - 0).toNat + 1) key val 0 (s.b 1 2 3 4) s.rows tb s.sess s.lasts) fun r =>
        bif ((decide ((0 : Int) ≤ r.2.2.1)) && (decide (r.2.2.1 ≤ ((r.2.2.2.2.1.length : Nat) : Int)))) then
          bif ((Zv (0 + ((r.2.2.2.2.1.take r.2.2.1.toNat).length)) 64) && true) then
            bif ((Zv (0 + r.1.length) 1) && true) then
              bif ((Zv (0 + r.2.1.length) 1) && true) then
                bif ((Zv (((r.2.2.2.2.1.take r.2.2.1.toNat).length) + 1) 64) && true) then
                  bif ((decide ((0 : Int) ≤ r.2.2.1)) && (decide (r.2.2.1 ≤ ((r.2.2.2.2.1.length : Nat) : Int)))) then
                    bif ((Zv ((((r.2.2.2.2.1.take r.2.2.1.toNat) ++ [(V.agg [(V.inl Zc r.1), (V.inl Zc r.2.1), (V.int .i64 (gi r.2.2.2.1 0)), (V.int .i64 0)])]).length) + (((r.2.2.2.2.1.drop (0 + r.2.2.1.toNat)).take (r.2.2.2.2.1.length - r.2.2.1.toNat)).length)) 64) && true) then
                      some (true, (V.agg [(V.int .i64 (gi r.2.2.2.1 0)), (V.inl Zg (((r.2.2.2.2.1.take r.2.2.1.toNat) ++ [(V.agg [(V.inl Zc r.1), (V.inl Zc r.2.1), (V.int .i64 (gi r.2.2.2.1 0)), (V.int .i64 0)])]) ++ ((r.2.2.2.2.1.drop (0 + r.2.2.1.toNat)).take (r.2.2.2.2.1.length - r.2.2.1.toNat)))), (V.inl Zf r.2.2.2.2.2.1), (V.int .i64 (gi r.2.2.2.1 3)), (V.inl Zd r.2.2.2.2.2.2.1), (V.inl Ze r.2.2.2.2.2.2.2)]))
                    else none
                  else none
                else none
              else none
            else none
          else none
        else none) = some (true, ({ s with rows := insAt s.rows (ZcC s.rows key) (rowV key val s.idx 0), tombs := tb } : SD).v) := fun tb => by
      rw [ZaT, spec_put_l12 hr]
      simp only [Option.bind_some, Int.toNat_natCast, Nat.zero_add, dropAll, List.length_append, List.length_take, List.length_drop, List.length_singleton]
      rw [leT hg, Zac (by omega) (by omega), Zac (by omega) (by omega), Zac (by omega) (by omega), Zac (by omega) (by omega), Zac (by omega) (by omega)]
      rfl
    cases hft : Zs (fun i => neq (gl (rd s.tombs i) 0) key) 0 s.tombs.length with
    | none =>
      rw [fK_none hft, show decide ((0 : Int) ≤ -1) = false from rfl]
      exact tail s.tombs
    | some j =>
      have hj := fK_lt hft
      have e1 : IntKind.i64.wrap ((j : Int) + 1) = ((j + 1 : Nat) : Int) := by rw [ZaC (by omega) (by omega)]; omega
      rw [fK_some hft, decide_eq_true (show (0 : Int) ≤ (j : Int) by omega)]
      simp only [cond_true, e1, Int.toNat_natCast, Nat.zero_add, dropAll, List.length_take, List.length_drop, Bool.true_and, decide_eq_true (show (j : Int) ≤ ((s.tombs.length : Nat) : Int) by omega), leT (show j + 1 ≤ s.tombs.length from hj)]
      rw [Zac (by omega) (by omega), Zac (by omega) (by omega)]
      have t2 := tail (rmAt s.tombs j)
      simp only [Nat.zero_add, dropAll, List.length_take, List.length_drop] at t2
      exact t2
end Go.Eng.R
open Go Go.Eng
namespace Go.Eng.R
set_option maxRecDepth 100000
theorem bury_few {s : SD} {i : Nat} (hi : i < s.rows.length) (ht : s.tombs.length ≤ 9) : s.bury i = { s with rows := rmAt s.rows i, tombs := s.tombs ++ [tombV (gl (rd s.rows i) 0) s.idx] } := by
  unfold SD.bury; rw [decide_eq_false (show ¬ 10 < s.tombs.length + 1 by omega)]; rfl
theorem bury_lens {s : SD} {i : Nat} (hi : i < s.rows.length) (ht : s.tombs.length ≤ 9) : (s.bury i).rows.length = s.rows.length - 1 ∧ (s.bury i).tombs.length = s.tombs.length + 1 := by
  rw [bury_few hi ht]
  exact ⟨rmAt_len hi, by show (s.tombs ++ [_]).length = _; rw [List.length_append, List.length_singleton]⟩
def SD.shutL (id : Int) (del : Bool) : Nat → Nat → SD → SD
  | 0, _, s => s
  | n + 1, k, s => bif decide (k < s.rows.length) then
      bif !decide (gi (rd s.rows k) 3 = id) then SD.shutL id del n (k + 1) s
      else bif del then SD.shutL id del n k (s.bury k)
      else SD.shutL id del n (k + 1) { s with rows := s.rows.set k (rowV (gl (rd s.rows k) 0) (gl (rd s.rows k) 1) s.idx 0) }
    else s
def SD.shut (s : SD) (i : Nat) : SD := SD.shutL (gi (rd s.sess i) 0) (gb (rd s.sess i) 1) s.rows.length 0 { s with sess := rmAt s.sess i }
theorem Zdf {id : Int} {del : Bool} : ∀ (n k : Nat) (s : SD), k ≤ s.rows.length → s.rows.length - k ≤ n → s.rows.length + s.tombs.length ≤ 9 → ∀ m, s.rows.length - k < m →
    Zaa m (k : Int) (s.b 2 3 4 5) (sessV id del) s.rows s.tombs s.sess s.lasts = some ((SD.shutL id del n k s).b 1 2 3 4, (SD.shutL id del n k s).rows, (SD.shutL id del n k s).tombs, (SD.shutL id del n k s).sess, (SD.shutL id del n k s).lasts)
  | n, k, s, hk, hn, hb, 0, hm => by omega
  | 0, k, s, hk, hn, hb, m + 1, hm => by
    obtain rfl : k = s.rows.length := by omega
    rw [Zaa, ZX]; rfl
  | n + 1, k, s, hk, hn, hb, m + 1, hm => by
    by_cases h : k < s.rows.length
    case neg =>
      obtain rfl : k = s.rows.length := by omega
      rw [Zaa, ZX, SD.shutL, decide_eq_false h]; rfl
    rw [Zaa, SD.shutL, decide_eq_true h]
    simp only [Z7 h, Zo h, Nat.zero_add, Int.toNat_natCast, cond_true, show gi (sessV id del) 0 = id from rfl, show gb (sessV id del) 1 = del from rfl, Z0 h (show s.rows.length ≤ 9223372036854775807 by omega)]
    by_cases hh : gi (rd s.rows k) 3 = id
    case neg =>
      rw [decide_eq_false hh]
      exact Zdf n (k + 1) s (by omega) (by omega) hb m (by omega)
    rw [decide_eq_true hh]
    cases del with
    | true =>
      obtain ⟨l1, l2⟩ := bury_lens h (by omega)
      simp only [Bool.not_true, cond_false, cond_true]
      refine Eq.trans (congrArg (fun o => Option.bind o _) (show _ = _ from spec_bury_eq h (by omega) (by omega))) ?_
      have e1 : IntKind.i64.wrap (IntKind.i64.wrap ((k : Int) - 1) + 1) = (k : Int) := by rw [ZaC (n := (k : Int) - 1) (by omega) (by omega), ZaC (by omega) (by omega)]; omega
      rw [e1]
      exact Zdf n k (s.bury k) (by omega) (by omega) (by omega) m (by omega)
    | false =>
      simp only [Bool.not_true, cond_false, List.length_set, Zo h, cond_true, rdSetEq h, List.set_set]
      exact Zdf n (k + 1) { s with rows := s.rows.set k (rowV (gl (rd s.rows k) 0) (gl (rd s.rows k) 1) s.idx 0) } (by show k + 1 ≤ (s.rows.set k _).length; rw [List.length_set]; omega) (by show (s.rows.set k _).length - (k + 1) ≤ n; rw [List.length_set]; omega) (by show (s.rows.set k _).length + _ ≤ 9; rw [List.length_set]; exact hb) m (by show (s.rows.set k _).length - (k + 1) < m; rw [List.length_set]; omega)
theorem spec_shut_eq {s : SD} {i : Nat} (hi : i < s.sess.length) (hs : s.sess.length ≤ 1000) (hb : s.rows.length + s.tombs.length ≤ 9) : Zcx s.v (i : Int) = some (s.shut i).v := by
  unfold Zcx
  have e1 : IntKind.i64.wrap ((i : Int) + 1) = ((i + 1 : Nat) : Int) := by rw [ZaC (by omega) (by omega)]; omega
  simp only [show gl s.v 1 = s.rows from rfl, show gl s.v 2 = s.tombs from rfl, show gl s.v 4 = s.sess from rfl, show gl s.v 5 = s.lasts from rfl, e1, Zo hi, leT (Nat.le_of_lt hi), leT (show i + 1 ≤ s.sess.length from hi), Int.toNat_natCast, Nat.zero_add, cond_true, List.length_take, List.length_drop]
  rw [Zac (by omega) (by omega), Zac (by omega) (by omega)]
  simp only [cond_true]
  rw [ZaT]
  refine Eq.trans (congrArg (fun o => Option.bind o _) (show _ = _ from Zdf (id := gi (rd s.sess i) 0) (del := gb (rd s.sess i) 1) s.rows.length 0 { s with sess := rmAt s.sess i } (Nat.zero_le _) (by show s.rows.length - 0 ≤ _; omega) hb (s.rows.length + 1) (by show s.rows.length - 0 < _; omega))) ?_
  rfl
def SD.look (s : SD) (key : List V) : Option Nat := bif decide (0 < key.length) then Zs (fun i => neq (gl (rd s.rows i) 0) key) 0 s.rows.length else none
def SD.sessAt (s : SD) (id : Int) : Option Nat := Zs (fun i => decide (gi (rd s.sess i) 0 = id)) 0 s.sess.length
def codeOf (b : Bool) : Int := bif b then 0 else 4
def SD.hold (s : SD) (key : List V) (n : Int) : SD := match Zs (fun i => neq (gl (rd s.rows i) 0) key) 0 s.rows.length with
  | some j => { s with rows := s.rows.set j (rowV (gl (rd s.rows j) 0) (gl (rd s.rows j) 1) (gi (rd s.rows j) 2) n) }
  | none => s
def SD.puts (s : SD) (key val : List V) : Int × SD := (codeOf (s.put key val).1, (s.put key val).2)
def SD.do' (s : SD) (k : Int) (key val : List V) (n : Int) : Int × SD :=
  bif decide (k = 1) then s.puts key val
  else bif decide (k = 2) then
    bif decide ((match s.look key with | some j => gi (rd s.rows j) 2 | none => 0) = n) then s.puts key val else (3, s)
  else bif decide (k = 3) then (match s.look key with | some j => (0, s.bury j) | none => (1, s))
  else bif decide (k = 4) then bif decide (8 ≤ s.sess.length) then (4, s) else (0, { s with sess := s.sess ++ [sessV s.idx (decide (n = 1))] })
  else bif decide (k = 5) then (match s.sessAt n with | some i => (0, s.shut i) | none => (1, s))
  else bif decide (k = 6) then (match s.sessAt n with
    | none => (1, s)
    | some _ => bif (match s.look key with | some j => !decide (gi (rd s.rows j) 3 = 0) && !decide (gi (rd s.rows j) 3 = n) | none => false) then (2, s)
      else bif (s.put key val).1 then (0, (s.put key val).2.hold key n) else (4, (s.put key val).2))
  else bif decide (k = 7) then (match s.look key with
    | some j => bif decide (gi (rd s.rows j) 3 = n) then (0, { s with rows := s.rows.set j (rowV (gl (rd s.rows j) 0) (gl (rd s.rows j) 1) s.idx 0) }) else (1, s)
    | none => (1, s))
  else (0, s)
theorem neq_refl (a : List V) : neq a a = true := by rw [ZcX]; exact decide_eq_true rfl
theorem rdIns {l : List V} {i : Nat} {x : V} (h : i ≤ l.length) : rd (insAt l i x) i = x := by
  unfold insAt
  have : (l.take i).length = i := by rw [List.length_take]; omega
  simp [rd, List.getD, this]
theorem put_found {s : SD} {key val : List V} (h : (s.put key val).1 = true) : ∃ j, Zs (fun i => neq (gl (rd (s.put key val).2.rows i) 0) key) 0 (s.put key val).2.rows.length = some j ∧ j < (s.put key val).2.rows.length := by
  have fin : ∀ (l : List V) (i : Nat), i < l.length → neq (gl (rd l i) 0) key = true → ∃ j, Zs (fun i => neq (gl (rd l i) 0) key) 0 l.length = some j ∧ j < l.length := fun l i hi hn => by
    cases hf : Zs (fun i => neq (gl (rd l i) 0) key) 0 l.length with
    | none => have := firstI_none.1 hf i (Nat.zero_le _) (by omega); rw [hn] at this; cases this
    | some j => exact ⟨j, rfl, fK_lt hf⟩
  revert h
  unfold SD.put
  cases hf : Zs (fun i => neq (gl (rd s.rows i) 0) key) 0 s.rows.length with
  | some j =>
    intro _
    have hj := fK_lt hf
    have hq := (ZaL hf).2.2.1
    refine fin (s.rows.set j _) j (by rw [List.length_set]; exact hj) ?_
    rw [rdSetEq hj]; exact hq
  | none =>
    cases decide (20 ≤ s.rows.length) with
    | true => intro h; cases h
    | false =>
      intro _
      have hg := firstGe_le s.rows key
      refine fin (insAt s.rows (ZcC s.rows key) _) (ZcC s.rows key) (by rw [insAt_len hg]; omega) ?_
      rw [rdIns hg]; exact neq_refl key
theorem put_len {s : SD} {key val : List V} : (s.put key val).2.rows.length ≤ s.rows.length + 1 ∧ (s.put key val).2.tombs.length ≤ s.tombs.length := by
  unfold SD.put
  cases hf : Zs (fun i => neq (gl (rd s.rows i) 0) key) 0 s.rows.length with
  | some j => exact ⟨by show (s.rows.set j _).length ≤ _; rw [List.length_set]; omega, Nat.le_refl _⟩
  | none =>
    cases decide (20 ≤ s.rows.length) with
    | true => exact ⟨Nat.le_succ _, Nat.le_refl _⟩
    | false =>
      refine ⟨by show (insAt s.rows _ _).length ≤ _; rw [insAt_len (firstGe_le _ _)]; omega, ?_⟩
      cases hft : Zs (fun i => neq (gl (rd s.tombs i) 0) key) 0 s.tombs.length with
      | none => exact Nat.le_refl _
      | some j => show (rmAt s.tombs j).length ≤ _; rw [rmAt_len (fK_lt hft)]; omega
theorem fI_some {l : List V} {n : Int} {j : Nat} (h : Zs (fun i => decide (gi (rd l i) 0 = n)) 0 l.length = some j) : fI l n = (j : Int) := by unfold fI; rw [h]
theorem fI_none {l : List V} {n : Int} (h : Zs (fun i => decide (gi (rd l i) 0 = n)) 0 l.length = none) : fI l n = -1 := by unfold fI; rw [h]
end Go.Eng.R
open Go Go.Eng
namespace Go.Eng.R
set_option maxRecDepth 100000
theorem dF {p : Prop} [Decidable p] (h : ¬ p) : decide p = false := decide_eq_false h
theorem dT {p : Prop} [Decidable p] (h : p) : decide p = true := decide_eq_true h
theorem putP {s : SD} {key val : List V} (hr : s.rows.length ≤ 1000) (ht : s.tombs.length ≤ 1000) (hk : key.length ≤ 1000) (hv : val.length ≤ 1000) :
    (Option.bind (Z5 (Za s.v) key val) fun r => bif (!r.1) then some ((4 : Int), (Za r.2)) else some (0, (Za r.2))) = some ((s.puts key val).1, (s.puts key val).2.v) := by
  refine Eq.trans (congrArg (fun o => Option.bind o _) (show _ = _ from spec_put_eq hr ht hk hv)) ?_
  unfold SD.puts codeOf
  cases (s.put key val).1 <;> rfl
theorem takeP {s : SD} {key val : List V} {n : Int} (hr : s.rows.length ≤ 999) (ht : s.tombs.length ≤ 1000) (hk : key.length ≤ 1000) (hv : val.length ≤ 1000) :
    (Option.bind (Z5 (Za s.v) key val) fun r => bif (!r.1) then some ((4 : Int), (Za r.2)) else Option.bind (ZaQ (Za r.2) key) fun q =>
      bif (Zm q ((gl r.2 1).length)) then some (0, (V.agg [(V.int .i64 (gi r.2 0)), (V.inl Zg ((gl r.2 1).set (0 + q.toNat) (V.agg [(V.inl Zc (gl (rd (gl r.2 1) (0 + q.toNat)) 0)), (V.inl Zc (gl (rd (gl r.2 1) (0 + q.toNat)) 1)), (V.int .i64 (gi (rd (gl r.2 1) (0 + q.toNat)) 2)), (V.int .i64 n)]))), (V.inl Zf (gl r.2 2)), (V.int .i64 (gi r.2 3)), (V.inl Zd (gl r.2 4)), (V.inl Ze (gl r.2 5))])) else none) =
    (bif (s.put key val).1 then some (0, ((s.put key val).2.hold key n).v) else some (4, (s.put key val).2.v)) := by
  refine Eq.trans (congrArg (fun o => Option.bind o _) (show _ = _ from spec_put_eq (by omega) ht hk hv)) ?_
  have hl := put_len (s := s) (key := key) (val := val)
  have hfd := put_found (s := s) (key := key) (val := val)
  revert hl hfd
  generalize s.put key val = q
  obtain ⟨b, q⟩ := q
  intro hl hfd
  cases b with
  | false => rfl
  | true =>
    obtain ⟨j, hf, hj⟩ := hfd rfl
    have hj : j < q.rows.length := hj
    have er : ZaQ (Za (Za q.v)) key = some (fK q.rows key) := Zde (s := q.v) (show q.rows.length ≤ _ by have := hl.1; dsimp only at this; omega) key
    simp only [Option.bind_some, Bool.not_true, cond_false, cond_true]
    refine Eq.trans (congrArg (fun o => Option.bind o _) (show _ = some (fK q.rows key) from er)) ?_
    rw [fK_some hf]
    simp only [Option.bind_some, Int.toNat_natCast, Nat.zero_add, show gl q.v 1 = q.rows from rfl, Zo hj, cond_true]
    unfold SD.hold
    rw [show Zs (fun i => neq (gl (rd q.rows i) 0) key) 0 q.rows.length = some j from hf]
    rfl
theorem spec_do_key {s : SD} {o : V} (hs : s.sess.length ≤ 1000) (hb : s.rows.length + s.tombs.length ≤ 9) (hk : (gl o 1).length ≤ 1000) (hv : (gl o 2).length ≤ 1000) (hk0 : 0 < (gl o 1).length) :
    ZaY s.v o = some ((s.do' (gi o 0) (gl o 1) (gl o 2) (gi o 3)).1, (s.do' (gi o 0) (gl o 1) (gl o 2) (gi o 3)).2.v) := by
  have er : ZaQ (Za s.v) (gl o 1) = some (fK s.rows (gl o 1)) := Zde (s := s.v) (show s.rows.length ≤ _ by omega) _
  have es : Zbh (Za s.v) (gi o 3) = some (fI s.sess (gi o 3)) := ZdF (s := s.v) (show s.sess.length ≤ _ by omega) _
  have pp := putP (s := s) (key := gl o 1) (val := gl o 2) (by omega) (by omega) hk hv
  have tp := takeP (s := s) (key := gl o 1) (val := gl o 2) (n := gi o 3) (by omega) (by omega) hk hv
  unfold ZaY SD.do' SD.look SD.sessAt
  rw [dT hk0, dT (show (0 : Int) < (((gl o 1).length : Nat) : Int) by omega)]
  simp only [cond_true, er, es, Option.bind_some, show gl s.v 1 = s.rows from rfl, show gl s.v 2 = s.tombs from rfl, show gl s.v 4 = s.sess from rfl, show gl s.v 5 = s.lasts from rfl, show gi s.v 0 = s.idx from rfl, show gi s.v 3 = s.lost from rfl]
  generalize gl o 1 = key at *
  generalize gl o 2 = val at *
  generalize gi o 3 = n at *
  generalize gi o 0 = k
  by_cases h1 : k = 1
  · rw [dT h1]; exact pp
  rw [dF h1]
  by_cases h2 : k = 2
  · rw [dT h2]
    simp only [cond_false, cond_true]
    cases hf : Zs (fun i => neq (gl (rd s.rows i) 0) key) 0 s.rows.length with
    | none =>
      rw [fK_none hf, show decide ((0 : Int) ≤ -1) = false from rfl]
      simp only [cond_false]
      by_cases hn : (0 : Int) = n
      · rw [dT hn]; exact pp
      · rw [dF hn]; rfl
    | some j =>
      have hj := fK_lt hf
      rw [fK_some hf, dT (show (0 : Int) ≤ (j : Int) by omega), Zo hj]
      simp only [cond_true, Nat.zero_add, Int.toNat_natCast]
      by_cases hn : gi (rd s.rows j) 2 = n
      · rw [dT hn]; exact pp
      · rw [dF hn]; rfl
  rw [dF h2]
  by_cases h3 : k = 3
  · rw [dT h3]
    simp only [cond_false, cond_true]
    cases hf : Zs (fun i => neq (gl (rd s.rows i) 0) key) 0 s.rows.length with
    | none => rw [fK_none hf]; rfl
    | some j =>
      have hj := fK_lt hf
      rw [fK_some hf, dF (show ¬ (j : Int) < 0 by omega)]
      simp only [cond_false]
      refine Eq.trans (congrArg (fun o => Option.bind o _) (show _ = _ from spec_bury_eq hj (by omega) (by omega))) ?_
      rfl
  rw [dF h3]
  by_cases h4 : k = 4
  · rw [dT h4]
    simp only [cond_false, cond_true]
    by_cases h8 : 8 ≤ s.sess.length
    · rw [dT h8, dT (show (8 : Int) ≤ ((s.sess.length : Nat) : Int) by omega)]; rfl
    · rw [dF h8, dF (show ¬ (8 : Int) ≤ ((s.sess.length : Nat) : Int) by omega), Zac (by omega) (by omega), Zac (by omega) (by omega)]; rfl
  rw [dF h4]
  by_cases h5 : k = 5
  · rw [dT h5]
    simp only [cond_false, cond_true]
    cases hf : Zs (fun i => decide (gi (rd s.sess i) 0 = n)) 0 s.sess.length with
    | none => rw [fI_none hf]; rfl
    | some j =>
      have hj := (ZaL hf).2.1
      rw [fI_some hf, dF (show ¬ (j : Int) < 0 by omega)]
      simp only [cond_false]
      refine Eq.trans (congrArg (fun o => Option.bind o _) (show _ = _ from spec_shut_eq (by omega) hs hb)) ?_
      rfl
  rw [dF h5]
  by_cases h6 : k = 6
  · rw [dT h6]
    simp only [cond_false, cond_true]
    cases hf : Zs (fun i => decide (gi (rd s.sess i) 0 = n)) 0 s.sess.length with
    | none => rw [fI_none hf]; rfl
    | some j =>
      rw [fI_some hf, dF (show ¬ (j : Int) < 0 by omega)]
      simp only [cond_false]
      have fin : (bif (s.put key val).1 then some ((0 : Int), ((s.put key val).2.hold key n).v) else some (4, (s.put key val).2.v)) = some ((bif (s.put key val).1 then ((0 : Int), (s.put key val).2.hold key n) else (4, (s.put key val).2)).1, (bif (s.put key val).1 then ((0 : Int), (s.put key val).2.hold key n) else (4, (s.put key val).2)).2.v) := by
        cases (s.put key val).1 <;> rfl
      cases hr : Zs (fun i => neq (gl (rd s.rows i) 0) key) 0 s.rows.length with
      | none =>
        rw [fK_none hr, show decide ((0 : Int) ≤ -1) = false from rfl]
        exact tp.trans fin
      | some i =>
        have hi := fK_lt hr
        rw [fK_some hr, dT (show (0 : Int) ≤ (i : Int) by omega), Zo hi]
        simp only [cond_true, Nat.zero_add, Int.toNat_natCast]
        simp only [Nat.zero_add] at tp
        by_cases hz : gi (rd s.rows i) 3 = 0
        · rw [dT hz]; exact tp.trans fin
        rw [dF hz]
        by_cases hn : gi (rd s.rows i) 3 = n
        · rw [dT hn]; exact tp.trans fin
        · rw [dF hn]; rfl
  rw [dF h6]
  by_cases h7 : k = 7
  · rw [dT h7]
    simp only [cond_false, cond_true]
    cases hf : Zs (fun i => neq (gl (rd s.rows i) 0) key) 0 s.rows.length with
    | none => rw [fK_none hf]; rfl
    | some j =>
      have hj := fK_lt hf
      rw [fK_some hf, dF (show ¬ (j : Int) < 0 by omega), Zo hj]
      simp only [cond_true, cond_false, Nat.zero_add, Int.toNat_natCast, List.length_set, Zo hj, rdSetEq hj, List.set_set]
      by_cases hn : gi (rd s.rows j) 3 = n
      · rw [dT hn]; rfl
      · rw [dF hn]; rfl
  rw [dF h7]
  rfl
theorem spec_do_no {s : SD} {o : V} (hs : s.sess.length ≤ 1000) (hb : s.rows.length + s.tombs.length ≤ 9) (hk : (gl o 1).length ≤ 1000) (hv : (gl o 2).length ≤ 1000) (hk0 : ¬ 0 < (gl o 1).length) :
    ZaY s.v o = some ((s.do' (gi o 0) (gl o 1) (gl o 2) (gi o 3)).1, (s.do' (gi o 0) (gl o 1) (gl o 2) (gi o 3)).2.v) := by
  have es : Zbh (Za s.v) (gi o 3) = some (fI s.sess (gi o 3)) := ZdF (s := s.v) (show s.sess.length ≤ _ by omega) _
  have pp := putP (s := s) (key := gl o 1) (val := gl o 2) (by omega) (by omega) hk hv
  have tp := takeP (s := s) (key := gl o 1) (val := gl o 2) (n := gi o 3) (by omega) (by omega) hk hv
  unfold ZaY SD.do' SD.look SD.sessAt
  rw [dF hk0, dF (show ¬ (0 : Int) < (((gl o 1).length : Nat) : Int) by omega)]
  simp only [cond_false, es, Option.bind_some, show gl s.v 1 = s.rows from rfl, show gl s.v 2 = s.tombs from rfl, show gl s.v 4 = s.sess from rfl, show gl s.v 5 = s.lasts from rfl, show gi s.v 0 = s.idx from rfl, show gi s.v 3 = s.lost from rfl]
  generalize gl o 1 = key at *
  generalize gl o 2 = val at *
  generalize gi o 3 = n at *
  generalize gi o 0 = k
  by_cases h1 : k = 1
  · rw [dT h1]; exact pp
  rw [dF h1]
  by_cases h2 : k = 2
  · rw [dT h2]
    simp only [cond_false, cond_true]
    by_cases hn : (0 : Int) = n
    · rw [dT hn]; exact pp
    · rw [dF hn]; rfl
  rw [dF h2]
  by_cases h3 : k = 3
  · rw [dT h3]; rfl
  rw [dF h3]
  by_cases h4 : k = 4
  · rw [dT h4]
    simp only [cond_false, cond_true]
    by_cases h8 : 8 ≤ s.sess.length
    · rw [dT h8, dT (show (8 : Int) ≤ ((s.sess.length : Nat) : Int) by omega)]; rfl
    · rw [dF h8, dF (show ¬ (8 : Int) ≤ ((s.sess.length : Nat) : Int) by omega), Zac (by omega) (by omega), Zac (by omega) (by omega)]; rfl
  rw [dF h4]
  by_cases h5 : k = 5
  · rw [dT h5]
    simp only [cond_false, cond_true]
    cases hf : Zs (fun i => decide (gi (rd s.sess i) 0 = n)) 0 s.sess.length with
    | none => rw [fI_none hf]; rfl
    | some j =>
      have hj := (ZaL hf).2.1
      rw [fI_some hf, dF (show ¬ (j : Int) < 0 by omega)]
      simp only [cond_false]
      refine Eq.trans (congrArg (fun o => Option.bind o _) (show _ = _ from spec_shut_eq (by omega) hs hb)) ?_
      rfl
  rw [dF h5]
  by_cases h6 : k = 6
  · rw [dT h6]
    simp only [cond_false, cond_true]
    cases hf : Zs (fun i => decide (gi (rd s.sess i) 0 = n)) 0 s.sess.length with
    | none => rw [fI_none hf]; rfl
    | some j =>
      rw [fI_some hf, dF (show ¬ (j : Int) < 0 by omega)]
      simp only [cond_false]
      refine tp.trans ?_
      cases (s.put key val).1 <;> rfl
  rw [dF h6]
  by_cases h7 : k = 7
  · rw [dT h7]; rfl
  rw [dF h7]
  rfl
theorem spec_do_eq {s : SD} {o : V} (hs : s.sess.length ≤ 1000) (hb : s.rows.length + s.tombs.length ≤ 9) (hk : (gl o 1).length ≤ 1000) (hv : (gl o 2).length ≤ 1000) :
    ZaY s.v o = some ((s.do' (gi o 0) (gl o 1) (gl o 2) (gi o 3)).1, (s.do' (gi o 0) (gl o 1) (gl o 2) (gi o 3)).2.v) := by
  by_cases h : 0 < (gl o 1).length
  · exact spec_do_key hs hb hk hv h
  · exact spec_do_no hs hb hk hv h
end Go.Eng.R
open Go Go.Eng
namespace Go.Eng.R
set_option maxRecDepth 100000
theorem put_lasts (s : SD) (key val : List V) : (s.put key val).2.lasts = s.lasts := by
  unfold SD.put
  cases Zs (fun i => neq (gl (rd s.rows i) 0) key) 0 s.rows.length with
  | some j => rfl
  | none => cases decide (20 ≤ s.rows.length) <;> rfl
theorem bury_lasts (s : SD) (i : Nat) : (s.bury i).lasts = s.lasts := by
  unfold SD.bury; cases decide (10 < s.tombs.length + 1) <;> rfl
theorem ZdO (id : Int) (del : Bool) : ∀ (n k : Nat) (s : SD), (SD.shutL id del n k s).lasts = s.lasts
  | 0, _, _ => rfl
  | n + 1, k, s => by
    rw [SD.shutL]
    cases decide (k < s.rows.length) with
    | false => rfl
    | true =>
      cases decide (gi (rd s.rows k) 3 = id) with
      | false => exact ZdO id del n (k + 1) s
      | true =>
        cases del with
        | true => exact (ZdO id true n k (s.bury k)).trans (bury_lasts s k)
        | false => exact ZdO id false n (k + 1) _
theorem hold_lasts (s : SD) (key : List V) (n : Int) : (s.hold key n).lasts = s.lasts := by
  unfold SD.hold; cases Zs (fun i => neq (gl (rd s.rows i) 0) key) 0 s.rows.length <;> rfl
theorem do_lasts (s : SD) (k : Int) (key val : List V) (n : Int) : (s.do' k key val n).2.lasts = s.lasts := by
  have hp := put_lasts s key val
  unfold SD.do'
  cases decide (k = 1) with
  | true => exact hp
  | false =>
  cases decide (k = 2) with
  | true =>
    show (bif _ then s.puts key val else (3, s)).2.lasts = _
    cases decide ((match s.look key with | some j => gi (rd s.rows j) 2 | none => 0) = n) with
    | true => exact hp
    | false => rfl
  | false =>
  cases decide (k = 3) with
  | true =>
    show (match s.look key with | some j => ((0 : Int), s.bury j) | none => (1, s)).2.lasts = _
    cases s.look key with
    | some j => exact bury_lasts s j
    | none => rfl
  | false =>
  cases decide (k = 4) with
  | true =>
    show (bif decide (8 ≤ s.sess.length) then ((4 : Int), s) else (0, { s with sess := s.sess ++ [sessV s.idx (decide (n = 1))] })).2.lasts = _
    cases decide (8 ≤ s.sess.length) <;> rfl
  | false =>
  cases decide (k = 5) with
  | true =>
    show (match s.sessAt n with | some i => ((0 : Int), s.shut i) | none => (1, s)).2.lasts = _
    cases s.sessAt n with
    | some i => exact ZdO _ _ _ _ _
    | none => rfl
  | false =>
  cases decide (k = 6) with
  | true =>
    show (match s.sessAt n with
      | none => ((1 : Int), s)
      | some _ => bif (match s.look key with | some j => !decide (gi (rd s.rows j) 3 = 0) && !decide (gi (rd s.rows j) 3 = n) | none => false) then (2, s)
        else bif (s.put key val).1 then (0, (s.put key val).2.hold key n) else (4, (s.put key val).2)).2.lasts = _
    cases s.sessAt n with
    | none => rfl
    | some i =>
      cases (match s.look key with | some j => !decide (gi (rd s.rows j) 3 = 0) && !decide (gi (rd s.rows j) 3 = n) | none => false) with
      | true => rfl
      | false =>
        show (bif (s.put key val).1 then ((0 : Int), (s.put key val).2.hold key n) else (4, (s.put key val).2)).2.lasts = _
        cases (s.put key val).1 with
        | true => exact (hold_lasts _ _ _).trans hp
        | false => exact hp
  | false =>
  cases decide (k = 7) with
  | true =>
    show (match s.look key with
      | some j => bif decide (gi (rd s.rows j) 3 = n) then ((0 : Int), { s with rows := s.rows.set j (rowV (gl (rd s.rows j) 0) (gl (rd s.rows j) 1) s.idx 0) }) else (1, s)
      | none => (1, s)).2.lasts = _
    cases s.look key with
    | none => rfl
    | some j =>
      dsimp only
      by_cases hn : gi (rd s.rows j) 3 = n
      · rw [dT hn]; rfl
      · rw [dF hn]; rfl
  | false => rfl
def Zbu (l : List V) (c : Int) : Nat := match Zs (fun i => !decide (gi (rd l i) 0 < c)) 0 l.length with | some j => j | none => l.length
theorem firstCl_le (l : List V) (c : Int) : Zbu l c ≤ l.length := by
  unfold Zbu
  cases h : Zs (fun i => !decide (gi (rd l i) 0 < c)) 0 l.length with
  | none => exact Nat.le_refl _
  | some j => have := ZaL h; show j ≤ _; omega
def SD.up (s : SD) : SD := { s with idx := s.idx + 1 }
def SD.apply (s : SD) (c : V) : (Int × Int) × SD :=
  bif decide (gi c 0 < 0) then ((0, s.idx + 1), s.up)
  else bif decide (Zbu s.lasts (gi c 0) < s.lasts.length) && decide (gi (rd s.lasts (Zbu s.lasts (gi c 0))) 0 = gi c 0) then
    bif decide (gi (rd s.lasts (Zbu s.lasts (gi c 0))) 1 = gi c 1) then ((gi (rd s.lasts (Zbu s.lasts (gi c 0))) 2, gi (rd s.lasts (Zbu s.lasts (gi c 0))) 3), s.up)
    else bif decide (gi c 1 < gi (rd s.lasts (Zbu s.lasts (gi c 0))) 1) then ((5, s.idx + 1), s.up)
    else (((s.up.do' (gi c 2) (gl c 3) (gl c 4) (gi c 5)).1, s.idx + 1), { (s.up.do' (gi c 2) (gl c 3) (gl c 4) (gi c 5)).2 with lasts := s.lasts.set (Zbu s.lasts (gi c 0)) (lastV (gi (rd s.lasts (Zbu s.lasts (gi c 0))) 0) (gi c 1) (s.up.do' (gi c 2) (gl c 3) (gl c 4) (gi c 5)).1 (s.idx + 1)) })
  else (((s.up.do' (gi c 2) (gl c 3) (gl c 4) (gi c 5)).1, s.idx + 1), { (s.up.do' (gi c 2) (gl c 3) (gl c 4) (gi c 5)).2 with lasts := insAt s.lasts (Zbu s.lasts (gi c 0)) (lastV (gi c 0) (gi c 1) (s.up.do' (gi c 2) (gl c 3) (gl c 4) (gi c 5)).1 (s.idx + 1)) })
theorem spec_apply_l6 {s : SD} {c b2 b3 : V} {r4 r5 r6 r7 : List V} (hr : r7.length ≤ 1000) : Z3 (r7.length + 1) 0 (s.b 4 5 6 7) (Zt c) (Zx b2) (Zx b3) r4 r5 r6 r7 = some (((Zbu r7 (gi c 0) : Nat) : Int), s.b 4 5 6 7, Zt c, Zx b2, Zx b3, r4, r5, r6, r7) := by
  unfold Zbu
  rw [show (0 : Int) = ((0 : Nat) : Int) from rfl, Zch (F := fun m i => Z3 m i (s.b 4 5 6 7) (Zt c) (Zx b2) (Zx b3) r4 r5 r6 r7) (n := r7.length) (q := fun i => !decide (gi (rd r7 i) 0 < gi c 0)) (out := fun j => some (j, s.b 4 5 6 7, Zt c, Zx b2, Zx b3, r4, r5, r6, r7)) (no := some (((r7.length : Nat) : Int), s.b 4 5 6 7, Zt c, Zx b2, Zx b3, r4, r5, r6, r7)) ?_ ?_ (r7.length + 1) 0 (by omega) (by omega), Nat.sub_zero]
  · cases Zs (fun i => !decide (gi (rd r7 i) 0 < gi c 0)) 0 r7.length <;> rfl
  · intro m i hi
    show Z3 (m + 1) (i : Int) (s.b 4 5 6 7) (Zt c) (Zx b2) (Zx b3) r4 r5 r6 r7 = _
    rw [Z3]
    simp only [Z7 hi, Zo hi, Int.toNat_natCast, Nat.zero_add, cond_true, Z0 hi (show r7.length ≤ 9223372036854775807 by omega), show gi (Zt c) 0 = gi c 0 from rfl]
    cases decide (gi (rd r7 i) 0 < gi c 0) <;> rfl
  · intro m
    show Z3 (m + 1) ((r7.length : Nat) : Int) (s.b 4 5 6 7) (Zt c) (Zx b2) (Zx b3) r4 r5 r6 r7 = _
    rw [Z3, ZX]; rfl
theorem spec_apply_eq {s : SD} {c : V} (hi0 : -10000000 ≤ s.idx) (hi1 : s.idx ≤ 10000000) (hs : s.sess.length ≤ 1000) (hl : s.lasts.length ≤ 1000) (hb : s.rows.length + s.tombs.length ≤ 9) (hk : (gl c 3).length ≤ 1000) (hv : (gl c 4).length ≤ 1000) :
    ZD s.v c = some (V.agg [(V.int .i64 (s.apply c).1.1), (V.int .i64 (s.apply c).1.2)], (s.apply c).2.v) := by
  have hdo := spec_do_eq (s := s.up) (o := V.agg [(V.int .i64 (gi c 2)), (V.inl Zc (gl c 3)), (V.inl Zc (gl c 4)), (V.int .i64 (gi c 5))]) hs hb hk hv
  have hdl := do_lasts s.up (gi c 2) (gl c 3) (gl c 4) (gi c 5)
  have hcl := firstCl_le s.lasts (gi c 0)
  unfold ZD SD.apply
  simp only [show gl s.v 1 = s.rows from rfl, show gl s.v 2 = s.tombs from rfl, show gl s.v 4 = s.sess from rfl, show gl s.v 5 = s.lasts from rfl, show gi s.v 0 = s.idx from rfl, show gi s.v 3 = s.lost from rfl]
  rw [ZaC (n := s.idx + 1) (by omega) (by omega)]
  by_cases h0 : gi c 0 < 0
  · rw [dT h0]; rfl
  rw [dF h0]
  simp only [cond_false]
  rw [ZaT]
  refine Eq.trans (congrArg (fun o => Option.bind o _) (show _ = _ from spec_apply_l6 (s := s.up) (c := c) (b2 := V.agg [(V.int .i64 0), (V.int .i64 0)]) (b3 := V.agg [(V.int .i64 0), (V.int .i64 (s.idx + 1))]) hl)) ?_
  simp only [Option.bind_some]
  generalize Zbu s.lasts (gi c 0) = k at *
  have hdo' : ZaY (V.agg [(V.int .i64 (gi (s.up.b 4 5 6 7) 0)), (V.inl Zg s.rows), (V.inl Zf s.tombs), (V.int .i64 (gi (s.up.b 4 5 6 7) 3)), (V.inl Zd s.sess), (V.inl Ze s.lasts)]) (V.agg [(V.int .i64 (gi (Zt c) 2)), (V.inl Zc (gl (Zt c) 3)), (V.inl Zc (gl (Zt c) 4)), (V.int .i64 (gi (Zt c) 5))]) = some ((s.up.do' (gi c 2) (gl c 3) (gl c 4) (gi c 5)).1, (s.up.do' (gi c 2) (gl c 3) (gl c 4) (gi c 5)).2.v) := hdo
  have new : (Option.bind (ZaY (V.agg [(V.int .i64 (gi (s.up.b 4 5 6 7) 0)), (V.inl Zg s.rows), (V.inl Zf s.tombs), (V.int .i64 (gi (s.up.b 4 5 6 7) 3)), (V.inl Zd s.sess), (V.inl Ze s.lasts)]) (V.agg [(V.int .i64 (gi (Zt c) 2)), (V.inl Zc (gl (Zt c) 3)), (V.inl Zc (gl (Zt c) 4)), (V.int .i64 (gi (Zt c) 5))])) fun r =>
      bif ((decide ((0 : Int) ≤ (k : Int))) && (decide ((k : Int) ≤ (((gl r.2 5).length : Nat) : Int)))) then
        bif ((Zv (0 + (((gl r.2 5).take (k : Int).toNat).length)) 32) && true) then
          bif ((Zv ((((gl r.2 5).take (k : Int).toNat).length) + 1) 32) && true) then
            bif ((decide ((0 : Int) ≤ (k : Int))) && (decide ((k : Int) ≤ (((gl r.2 5).length : Nat) : Int)))) then
              bif ((Zv (((((gl r.2 5).take (k : Int).toNat) ++ [(V.agg [(V.int .i64 (gi (Zt c) 0)), (V.int .i64 (gi (Zt c) 1)), (V.int .i64 r.1), (V.int .i64 (gi (Zx (V.agg [(V.int .i64 0), (V.int .i64 (s.idx + 1))])) 1))])]).length) + (((gl r.2 5).drop (0 + (k : Int).toNat)).length)) 32) && true) then
                some ((V.agg [(V.int .i64 r.1), (V.int .i64 (gi (Zx (V.agg [(V.int .i64 0), (V.int .i64 (s.idx + 1))])) 1))]), (V.agg [(V.int .i64 (gi r.2 0)), (V.inl Zg (gl r.2 1)), (V.inl Zf (gl r.2 2)), (V.int .i64 (gi r.2 3)), (V.inl Zd (gl r.2 4)), (V.inl Ze ((((gl r.2 5).take (k : Int).toNat) ++ [(V.agg [(V.int .i64 (gi (Zt c) 0)), (V.int .i64 (gi (Zt c) 1)), (V.int .i64 r.1), (V.int .i64 (gi (Zx (V.agg [(V.int .i64 0), (V.int .i64 (s.idx + 1))])) 1))])]) ++ ((gl r.2 5).drop (0 + (k : Int).toNat))))]))
              else none
            else none
          else none
        else none
      else none) = some (V.agg [(V.int .i64 (s.up.do' (gi c 2) (gl c 3) (gl c 4) (gi c 5)).1), (V.int .i64 (s.idx + 1))], ({ (s.up.do' (gi c 2) (gl c 3) (gl c 4) (gi c 5)).2 with lasts := insAt s.lasts k (lastV (gi c 0) (gi c 1) (s.up.do' (gi c 2) (gl c 3) (gl c 4) (gi c 5)).1 (s.idx + 1)) } : SD).v) := by
    rw [hdo']
    revert hdl
    generalize s.up.do' (gi c 2) (gl c 3) (gl c 4) (gi c 5) = q
    obtain ⟨co, q⟩ := q
    intro hdl
    have hdl : q.lasts = s.lasts := hdl
    simp only [Option.bind_some, show gl q.v 5 = q.lasts from rfl, hdl, Int.toNat_natCast, Nat.zero_add, List.length_append, List.length_take, List.length_drop, List.length_singleton]
    rw [leT hcl, Zac (by omega) (by omega), Zac (by omega) (by omega), Zac (by omega) (by omega)]
    rfl
  by_cases hk1 : k < s.lasts.length
  case neg =>
    rw [dF hk1, dF (show ¬ (k : Int) < ((s.lasts.length : Nat) : Int) by omega)]
    exact new
  rw [dT hk1, dT (show (k : Int) < ((s.lasts.length : Nat) : Int) by omega), Zo hk1]
  simp only [cond_true, Bool.true_and, Nat.zero_add, Int.toNat_natCast]
  by_cases hk2 : gi (rd s.lasts k) 0 = gi c 0
  case neg =>
    rw [dF hk2, show decide (gi (rd s.lasts k) 0 = gi (Zt c) 0) = false from dF hk2]
    simp only [Nat.zero_add, Int.toNat_natCast] at new
    exact new
  rw [dT hk2, show decide (gi (rd s.lasts k) 0 = gi (Zt c) 0) = true from dT hk2]
  simp only [cond_true]
  by_cases hk3 : gi (rd s.lasts k) 1 = gi c 1
  · rw [dT hk3, show decide (gi (rd s.lasts k) 1 = gi (Zt c) 1) = true from dT hk3]; rfl
  rw [dF hk3, show decide (gi (rd s.lasts k) 1 = gi (Zt c) 1) = false from dF hk3]
  simp only [cond_false]
  by_cases hk4 : gi c 1 < gi (rd s.lasts k) 1
  · rw [dT hk4, show decide (gi (Zt c) 1 < gi (rd s.lasts k) 1) = true from dT hk4]; rfl
  rw [dF hk4, show decide (gi (Zt c) 1 < gi (rd s.lasts k) 1) = false from dF hk4]
  simp only [cond_false]
  rw [hdo']
  revert hdl
  generalize s.up.do' (gi c 2) (gl c 3) (gl c 4) (gi c 5) = q
  obtain ⟨co, q⟩ := q
  intro hdl
  have hdl : q.lasts = s.lasts := hdl
  simp only [Option.bind_some, show gl q.v 5 = q.lasts from rfl, hdl, List.length_set, Zo hk1, rdSetEq hk1, List.set_set, cond_true]
  rfl
end Go.Eng.R
open Go Go.Eng
namespace Go.Eng.R
set_option maxRecDepth 100000
def K5 : List (List V) := [[(V.int .u8 97)], [(V.int .u8 98)], [(V.int .u8 99)], [(V.int .u8 97), (V.int .u8 47), (V.int .u8 98)], [(V.int .u8 100)]]
theorem K5_bs {k : List V} (h : k ∈ K5) : BS k := by
  simp only [K5, List.mem_cons, List.not_mem_nil, or_false] at h
  rcases h with rfl | rfl | rfl | rfl | rfl <;> exact bsB_spec rfl
theorem K5_neq {a b : List V} (ha : a ∈ K5) (hb : b ∈ K5) (h : neq a b = true) : a = b := by
  simp only [K5, List.mem_cons, List.not_mem_nil, or_false] at ha hb
  rcases ha with rfl | rfl | rfl | rfl | rfl <;> rcases hb with rfl | rfl | rfl | rfl | rfl <;> first | rfl | (exact absurd h (by decide))
theorem drawKey_K {c : V} (h : Z1 c) : Ok2 (fun x c => Z1 c ∧ x ∈ K5) (ZaM (Zb c)) := by
  obtain ⟨x, c', e, h', x0, x1⟩ := below_ok h (n := 5) (by decide)
  unfold ZaM
  rw [show Zb (Zb c) = Zb c from rfl, e]
  simp only [Option.bind_some]
  rw [show Zm x 5 = true from by simp [Zm]; omega]
  obtain ⟨j, rfl⟩ := Int.eq_ofNat_of_zero_le x0
  refine ⟨_, _, rfl, h', ?_⟩
  have hj : j = 0 ∨ j = 1 ∨ j = 2 ∨ j = 3 ∨ j = 4 := by omega
  rcases hj with rfl | rfl | rfl | rfl | rfl <;> simp only [K5, List.mem_cons, List.not_mem_nil, or_false]
  · exact .inl rfl
  · exact .inr (.inl rfl)
  · exact .inr (.inr (.inl rfl))
  · exact .inr (.inr (.inr (.inl rfl)))
  · exact .inr (.inr (.inr (.inr rfl)))
def opN (k : Int) : Prop := k ≠ 1 ∧ k ≠ 2 ∧ k ≠ 6
def D_Op (x : V) : Prop := (gl x 1 ∈ K5 ∨ (gl x 1 = [] ∧ opN (gi x 0))) ∧ BS (gl x 2) ∧ I64 (gi x 0) ∧ I64 (gi x 3)
theorem op_K {c : V} (h : Z1 c) (i : Int) : Ok2 (fun x c => Z1 c ∧ D_Op x) (spec_l2op (Zb c) i) := by
  unfold spec_l2op
  refine .of ?_
  obtain ⟨j, c', e, h1, hj⟩ := pick_ok h (l := [(V.int .i64 1), (V.int .i64 1), (V.int .i64 1), (V.int .i64 2), (V.int .i64 3), (V.int .i64 3), (V.int .i64 4), (V.int .i64 5), (V.int .i64 6), (V.int .i64 6), (V.int .i64 7), (V.int .i64 0)]) (by decide)
  have hv : gi (rd [(V.int .i64 1), (V.int .i64 1), (V.int .i64 1), (V.int .i64 2), (V.int .i64 3), (V.int .i64 3), (V.int .i64 4), (V.int .i64 5), (V.int .i64 6), (V.int .i64 6), (V.int .i64 7), (V.int .i64 0)] j) 0 ∈ [(0 : Int), 1, 2, 3, 4, 5, 6, 7] := by
    have hj' : j ∈ List.range 12 := List.mem_range.2 hj
    revert j
    intro j _ _ hj
    have key : ∀ j ∈ List.range 12, gi (rd [(V.int .i64 1), (V.int .i64 1), (V.int .i64 1), (V.int .i64 2), (V.int .i64 3), (V.int .i64 3), (V.int .i64 4), (V.int .i64 5), (V.int .i64 6), (V.int .i64 6), (V.int .i64 7), (V.int .i64 0)] j) 0 ∈ [(0 : Int), 1, 2, 3, 4, 5, 6, 7] := by decide
    exact key j hj
  rw [nn_cur, e]
  refine Ok.bind2 (Q := fun a b => a = gi (rd [(V.int .i64 1), (V.int .i64 1), (V.int .i64 1), (V.int .i64 2), (V.int .i64 3), (V.int .i64 3), (V.int .i64 4), (V.int .i64 5), (V.int .i64 6), (V.int .i64 6), (V.int .i64 7), (V.int .i64 0)] j) 0 ∧ b = c') ⟨_, _, rfl, rfl, rfl⟩ ?_
  rintro a b ⟨ha, rfl⟩
  rw [← ha] at hv
  clear ha e
  simp only [List.mem_cons, List.not_mem_nil, or_false] at hv
  rcases hv with rfl | rfl | rfl | rfl | rfl | rfl | rfl | rfl
  all_goals ((repeat' (((with_reducible refine (id ?_ : Ok _ _)); first | (with_reducible refine Ok.chk (by (first | (refine idx_of ?_ ?_ <;> (try simp only [List.length_set, List.length_append, List.length_cons, List.length_nil, List.length_replicate, Nat.zero_add]) <;> omega) | (refine room_of ?_ ?_ <;> (try simp only [List.length_set, List.length_append, List.length_cons, List.length_nil, List.length_replicate, Nat.zero_add]) <;> omega) | assumption | (simp; done) | (simp; omega))) ?_) | ((with_reducible refine Ok.iteT ?_ ?_); (next => first | exact decide_eq_true (by with_reducible rfl) | (refine congrArg not (decide_eq_false ?_); intro h; revert h; dsimp only; decide))) | ((with_reducible refine Ok.iteF ?_ ?_); (next => first | (refine decide_eq_false ?_; intro h; revert h; dsimp only; decide) | exact congrArg not (decide_eq_true (by with_reducible rfl)))) | (with_reducible refine Ok.ite (fun _ => ?_) (fun _ => ?_) <;> (rename_i h; try simp only [decide_eq_true_eq, decide_eq_false_iff_not, Int.not_lt] at h)) | (first | (((with_reducible refine Ok.bind2 (drawKey_K (by assumption)) ?_); rintro _ _ ⟨_, _⟩)) | (((with_reducible refine Ok.bind2 (drawKey_O (by assumption)) ?_); rintro _ _ ⟨_, _⟩)) | (((with_reducible refine Ok.bind2 (drawVal_O (by assumption)) ?_); rintro _ _ ⟨_, _⟩)) | (((with_reducible refine Ok.bind2 (pick_P (by assumption) ?_ ?_) ?_); (next => exact Nat.succ_pos _); (next => repeat' (first | trivial | ((repeat' (first | dsimp only [gi_c0, gi_cs, gl_c0, gl_cs, gi_v0] | with_reducible assumption | with_reducible exact wrI _ | (unfold I64; constructor <;> omega) | omega | (simp only [List.length_set, List.length_append, List.length_cons, List.length_nil, List.length_take, List.length_drop]; omega) | with_reducible refine LW.set' ?_ _ ?_ | with_reducible refine LW.snoc ?_ ?_ ?_ | with_reducible refine LW.takeL ?_ _ | with_reducible refine LW.dropL ?_ _ | with_reducible refine W_int.mk ?_ | assumption)); done) | refine And.intro ?_ ?_)); rintro _ _ ⟨_, _⟩)) | (((with_reducible refine Ok.bind2 (ZbF (by assumption) _) ?_); rintro _ _ ⟨_, _, _, _⟩))) | with_reducible refine Ok.ret ?_))))
  all_goals (refine ⟨by assumption, ?_, ?_, ?_, ?_⟩ <;> (try dsimp only [gi_c0, gi_cs, gl_c0, gl_cs]) <;> first | exact .inr ⟨rfl, by decide, by decide, by decide⟩ | (refine .inl ?_; assumption) | with_reducible assumption | with_reducible exact wrI _ | with_reducible exact BS.nil | ((unfold I64; constructor <;> omega)) | assumption)
open Classical in
theorem nodup_few {α : Type} : ∀ (K l : List α), l.Nodup → (∀ x ∈ l, x ∈ K) → l.length ≤ K.length
  | [], l, _, h => by
    cases l with
    | nil => exact Nat.le_refl _
    | cons a l => have := h a (by simp); cases this
  | k :: K, l, hn, h => by
    by_cases hk : k ∈ l
    · have e := List.length_erase_of_mem hk
      have := nodup_few K (l.erase k) (hn.erase k) fun x hx => by
        have h1 := (hn.mem_erase_iff).1 hx
        rcases List.mem_cons.1 (h x h1.2) with h2 | h2
        · exact absurd h2 h1.1
        · exact h2
      simp only [List.length_cons]
      omega
    · have := nodup_few K l hn fun x hx => by
        rcases List.mem_cons.1 (h x hx) with h2 | h2
        · subst h2; exact absurd hx hk
        · exact h2
      simp only [List.length_cons]
      omega
theorem ZbZ {l : List V} {i : Nat} (h : i < l.length) : rd l i ∈ l := by simp [rd, List.getD, h]
theorem rm_perm {l : List V} {i : Nat} (h : i < l.length) : l.Perm (rd l i :: rmAt l i) := by
  have e : l = l.take i ++ rd l i :: l.drop (i + 1) := by
    have h1 : rd l i = l[i] := by simp [rd, List.getD, h]
    rw [h1, List.getElem_cons_drop, List.take_append_drop]
  unfold rmAt
  exact (List.Perm.of_eq e).trans List.perm_middle
theorem ins_perm (l : List V) (i : Nat) (x : V) : (insAt l i x).Perm (x :: l) := by
  unfold insAt
  rw [List.append_assoc]
  refine List.perm_middle.trans ?_
  show (x :: (l.take i ++ l.drop i)).Perm (x :: l)
  rw [List.take_append_drop]
theorem mem_rmAt {l : List V} {i : Nat} {x : V} (h : x ∈ rmAt l i) : x ∈ l := by
  unfold rmAt at h
  rcases List.mem_append.1 h with h | h
  · exact List.mem_of_mem_take h
  · exact List.mem_of_mem_drop h
theorem mem_insAt {l : List V} {i : Nat} {x y : V} (h : y ∈ insAt l i x) : y = x ∨ y ∈ l := by
  have := (ins_perm l i x).mem_iff.1 h
  simpa using this
theorem map_set_same {f : V → List V} {l : List V} {j : Nat} {x : V} (hj : j < l.length) (h : f x = f (rd l j)) : (l.set j x).map f = l.map f := by
  rw [List.map_set]
  have e : f x = (l.map f)[j]'(by rw [List.length_map]; exact hj) := by
    rw [h, List.getElem_map]
    simp [rd, List.getD, hj]
  rw [e, List.set_getElem_self]
def Z9 (x : V) : List V := gl x 0
structure DI (s : SD) (n : Nat) : Prop where
  idx0 : 0 ≤ s.idx
  idx1 : s.idx ≤ (n : Int)
  rows : ∀ r ∈ s.rows, gl r 0 ∈ K5 ∧ BS (gl r 1) ∧ I64 (gi r 2) ∧ I64 (gi r 3)
  tombs : ∀ r ∈ s.tombs, gl r 0 ∈ K5 ∧ I64 (gi r 1)
  lost : I64 s.lost
  sessL : s.sess.length ≤ 8
  sess : ∀ x ∈ s.sess, I64 (gi x 0)
  lastsL : s.lasts.length ≤ n
  lasts : ∀ x ∈ s.lasts, I64 (gi x 0) ∧ I64 (gi x 1) ∧ I64 (gi x 2) ∧ I64 (gi x 3)
  nd : (s.rows.map Z9 ++ s.tombs.map Z9).Nodup
theorem I64_z : I64 0 := ⟨by decide, by decide⟩
theorem DI.few {s : SD} {n : Nat} (h : DI s n) : s.rows.length + s.tombs.length ≤ 5 := by
  have := nodup_few K5 _ h.nd fun k hk => by
    rcases List.mem_append.1 hk with hk | hk
    · obtain ⟨r, hr, rfl⟩ := List.mem_map.1 hk; exact (h.rows r hr).1
    · obtain ⟨r, hr, rfl⟩ := List.mem_map.1 hk; exact (h.tombs r hr).1
  rw [List.length_append, List.length_map, List.length_map] at this
  exact this
theorem DI.idxI {s : SD} {n : Nat} (h : DI s n) (hn : n ≤ 1000) : I64 s.idx := ⟨by have := h.idx0; omega, by have := h.idx1; omega⟩
theorem DI.bury {s : SD} {n : Nat} (h : DI s n) (hn : n ≤ 1000) {i : Nat} (hi : i < s.rows.length) : DI (s.bury i) n := by
  have hf := h.few
  rw [bury_few hi (by omega)]
  refine ⟨h.idx0, h.idx1, fun r hr => h.rows r (mem_rmAt hr), fun r hr => ?_, h.lost, h.sessL, h.sess, h.lastsL, h.lasts, ?_⟩
  · rcases List.mem_append.1 hr with hr | hr
    · exact h.tombs r hr
    · rw [List.mem_singleton.1 hr]; exact ⟨(h.rows _ (ZbZ hi)).1, h.idxI hn⟩
  · have hp : (s.rows.map Z9 ++ s.tombs.map Z9).Perm ((rmAt s.rows i).map Z9 ++ (s.tombs ++ [tombV (gl (rd s.rows i) 0) s.idx]).map Z9) := by
      have h1 : (s.rows.map Z9).Perm (Z9 (rd s.rows i) :: (rmAt s.rows i).map Z9) := (rm_perm hi).map Z9
      refine (h1.append_right _).trans ?_
      rw [List.map_append, List.map_singleton, show Z9 (tombV (gl (rd s.rows i) 0) s.idx) = Z9 (rd s.rows i) from rfl, ← List.append_assoc]
      exact (List.perm_append_singleton _ _).symm
    exact hp.nodup h.nd
theorem DI.put {s : SD} {n : Nat} (h : DI s n) (hn : n ≤ 1000) {key val : List V} (hk : key ∈ K5) (hv : BS val) : DI (s.put key val).2 n := by
  unfold SD.put
  cases hf : Zs (fun i => neq (gl (rd s.rows i) 0) key) 0 s.rows.length with
  | some j =>
    have hj := fK_lt hf
    refine ⟨h.idx0, h.idx1, fun r hr => ?_, h.tombs, h.lost, h.sessL, h.sess, h.lastsL, h.lasts, ?_⟩
    · rcases List.mem_or_eq_of_mem_set hr with hr | hr
      · exact h.rows r hr
      · subst hr
        obtain ⟨a, b, c, d⟩ := h.rows _ (ZbZ hj)
        exact ⟨a, hv, h.idxI hn, d⟩
    · show ((s.rows.set j (rowV (gl (rd s.rows j) 0) val s.idx (gi (rd s.rows j) 3))).map Z9 ++ s.tombs.map Z9).Nodup
      rw [map_set_same (f := Z9) (x := rowV (gl (rd s.rows j) 0) val s.idx (gi (rd s.rows j) 3)) hj rfl]; exact h.nd
  | none =>
    cases decide (20 ≤ s.rows.length) with
    | true => exact h
    | false =>
      have hno : key ∉ s.rows.map Z9 := fun hm => by
        obtain ⟨r, hr, hrk⟩ := List.mem_map.1 hm
        obtain ⟨i, hi, e⟩ := List.getElem_of_mem hr
        have e2 : rd s.rows i = r := by simp [rd, List.getD, hi, e]
        have := firstI_none.1 hf i (Nat.zero_le _) (by omega)
        rw [e2, show gl r 0 = key from hrk, neq_refl] at this
        cases this
      have hrows : ∀ r ∈ insAt s.rows (ZcC s.rows key) (rowV key val s.idx 0), gl r 0 ∈ K5 ∧ BS (gl r 1) ∧ I64 (gi r 2) ∧ I64 (gi r 3) := fun r hr => by
        rcases mem_insAt hr with rfl | hr
        · exact ⟨hk, hv, h.idxI hn, I64_z⟩
        · exact h.rows r hr
      have hpr : ((insAt s.rows (ZcC s.rows key) (rowV key val s.idx 0)).map Z9).Perm (key :: s.rows.map Z9) := (ins_perm _ _ _).map Z9
      cases hft : Zs (fun i => neq (gl (rd s.tombs i) 0) key) 0 s.tombs.length with
      | none =>
        have hnt : key ∉ s.tombs.map Z9 := fun hm => by
          obtain ⟨r, hr, hrk⟩ := List.mem_map.1 hm
          obtain ⟨i, hi, e⟩ := List.getElem_of_mem hr
          have e2 : rd s.tombs i = r := by simp [rd, List.getD, hi, e]
          have := firstI_none.1 hft i (Nat.zero_le _) (by omega)
          rw [e2, show gl r 0 = key from hrk, neq_refl] at this
          cases this
        refine ⟨h.idx0, h.idx1, hrows, h.tombs, h.lost, h.sessL, h.sess, h.lastsL, h.lasts, ?_⟩
        refine (hpr.append_right _).symm.nodup ?_
        rw [List.cons_append]
        exact List.nodup_cons.2 ⟨fun hm => (List.mem_append.1 hm).elim hno hnt, h.nd⟩
      | some j =>
        have hj := fK_lt hft
        have hq : neq (gl (rd s.tombs j) 0) key = true := (ZaL hft).2.2.1
        have hkk : gl (rd s.tombs j) 0 = key := K5_neq (h.tombs _ (ZbZ hj)).1 hk hq
        refine ⟨h.idx0, h.idx1, hrows, fun r hr => h.tombs r (mem_rmAt hr), h.lost, h.sessL, h.sess, h.lastsL, h.lasts, ?_⟩
        have ht : (s.tombs.map Z9).Perm (key :: (rmAt s.tombs j).map Z9) := by
          have := (rm_perm hj).map Z9
          rw [List.map_cons, show Z9 (rd s.tombs j) = key from hkk] at this
          exact this
        have hp : (s.rows.map Z9 ++ s.tombs.map Z9).Perm ((insAt s.rows (ZcC s.rows key) (rowV key val s.idx 0)).map Z9 ++ (rmAt s.tombs j).map Z9) :=
          ((ht.append_left _).trans List.perm_middle).trans (hpr.append_right _).symm
        exact hp.nodup h.nd
end Go.Eng.R
open Go Go.Eng
namespace Go.Eng.R
set_option maxRecDepth 100000
theorem DI.setRow {s : SD} {n : Nat} (h : DI s n) {j : Nat} (hj : j < s.rows.length) {v : List V} {t o : Int} (hv : BS v) (ht : I64 t) (ho : I64 o) : DI { s with rows := s.rows.set j (rowV (gl (rd s.rows j) 0) v t o) } n := by
  refine ⟨h.idx0, h.idx1, fun r hr => ?_, h.tombs, h.lost, h.sessL, h.sess, h.lastsL, h.lasts, ?_⟩
  · rcases List.mem_or_eq_of_mem_set hr with hr | hr
    · exact h.rows r hr
    · subst hr; exact ⟨(h.rows _ (ZbZ hj)).1, hv, ht, ho⟩
  · show ((s.rows.set j (rowV (gl (rd s.rows j) 0) v t o)).map Z9 ++ s.tombs.map Z9).Nodup
    rw [map_set_same (f := Z9) (x := rowV (gl (rd s.rows j) 0) v t o) hj rfl]; exact h.nd
theorem DI.shutL {n : Nat} (hn : n ≤ 1000) (id : Int) (del : Bool) : ∀ (m k : Nat) (s : SD), DI s n → DI (SD.shutL id del m k s) n
  | 0, _, _, h => h
  | m + 1, k, s, h => by
    rw [SD.shutL]
    by_cases hk : k < s.rows.length
    case neg => rw [dF hk]; exact h
    rw [dT hk]
    cases decide (gi (rd s.rows k) 3 = id) with
    | false => exact DI.shutL hn id del m (k + 1) s h
    | true =>
      cases del with
      | true => exact DI.shutL hn id true m k _ (h.bury hn hk)
      | false => exact DI.shutL hn id false m (k + 1) _ (h.setRow hk (h.rows _ (ZbZ hk)).2.1 (h.idxI hn) I64_z)
theorem DI.shut {s : SD} {n : Nat} (h : DI s n) (hn : n ≤ 1000) {i : Nat} (hi : i < s.sess.length) : DI (s.shut i) n := by
  have hl := h.sessL
  exact DI.shutL hn _ _ _ _ _ ⟨h.idx0, h.idx1, h.rows, h.tombs, h.lost, by show (rmAt s.sess i).length ≤ 8; rw [rmAt_len hi]; omega, fun x hx => h.sess x (mem_rmAt hx), h.lastsL, h.lasts, h.nd⟩
theorem DI.hold {s : SD} {n : Nat} (h : DI s n) {key : List V} {o : Int} (ho : I64 o) : DI (s.hold key o) n := by
  unfold SD.hold
  cases hf : Zs (fun i => neq (gl (rd s.rows i) 0) key) 0 s.rows.length with
  | none => exact h
  | some j =>
    have hj := fK_lt hf
    exact h.setRow hj (h.rows _ (ZbZ hj)).2.1 (h.rows _ (ZbZ hj)).2.2.1 ho
theorem look_lt {s : SD} {key : List V} {j : Nat} (h : s.look key = some j) : j < s.rows.length := by
  unfold SD.look at h
  cases hk : decide (0 < key.length) with
  | false => rw [hk] at h; cases h
  | true => rw [hk] at h; exact fK_lt h
theorem DI.do' {s : SD} {n : Nat} (h : DI s n) (hn : n ≤ 1000) {k : Int} {key val : List V} {o : Int} (hk : key ∈ K5 ∨ (key = [] ∧ opN k)) (hv : BS val) (ho : I64 o) : DI (s.do' k key val o).2 n ∧ 0 ≤ (s.do' k key val o).1 ∧ (s.do' k key val o).1 ≤ 4 := by
  have hp : opN k ∨ DI (s.put key val).2 n := by
    rcases hk with hk | ⟨-, hk⟩
    · exact .inr (h.put hn hk hv)
    · exact .inl hk
  have hps : (k = 1 ∨ k = 2) → DI (s.puts key val).2 n ∧ 0 ≤ (s.puts key val).1 ∧ (s.puts key val).1 ≤ 4 := fun hkk => by
    refine ⟨?_, ?_⟩
    · rcases hp with hp | hp
      · obtain ⟨a, b, c⟩ := hp; omega
      · exact hp
    · show 0 ≤ codeOf (s.put key val).1 ∧ codeOf (s.put key val).1 ≤ 4
      unfold codeOf; cases (s.put key val).1 <;> decide
  unfold SD.do'
  by_cases h1 : k = 1
  · rw [dT h1]; exact hps (.inl h1)
  rw [dF h1]
  by_cases h2 : k = 2
  · rw [dT h2]
    simp only [cond_false, cond_true]
    cases decide ((match s.look key with | some j => gi (rd s.rows j) 2 | none => 0) = o) with
    | true => exact hps (.inr h2)
    | false => exact ⟨h, (by decide : (0 : Int) ≤ 3), (by decide : (3 : Int) ≤ 4)⟩
  rw [dF h2]
  by_cases h3 : k = 3
  · rw [dT h3]
    simp only [cond_false, cond_true]
    cases hl : s.look key with
    | none => exact ⟨h, (by decide : (0 : Int) ≤ 1), (by decide : (1 : Int) ≤ 4)⟩
    | some j => exact ⟨h.bury hn (look_lt hl), (by decide : (0 : Int) ≤ 0), (by decide : (0 : Int) ≤ 4)⟩
  rw [dF h3]
  by_cases h4 : k = 4
  · rw [dT h4]
    simp only [cond_false, cond_true]
    by_cases h8 : 8 ≤ s.sess.length
    · rw [dT h8]; exact ⟨h, (by decide : (0 : Int) ≤ 4), (by decide : (4 : Int) ≤ 4)⟩
    · rw [dF h8]
      refine ⟨⟨h.idx0, h.idx1, h.rows, h.tombs, h.lost, ?_, fun x hx => ?_, h.lastsL, h.lasts, h.nd⟩, (by decide : (0 : Int) ≤ 0), (by decide : (0 : Int) ≤ 4)⟩
      · show (s.sess ++ [_]).length ≤ 8
        rw [List.length_append, List.length_singleton]; omega
      · rcases List.mem_append.1 hx with hx | hx
        · exact h.sess x hx
        · rw [List.mem_singleton.1 hx]; exact h.idxI hn
  rw [dF h4]
  by_cases h5 : k = 5
  · rw [dT h5]
    simp only [cond_false, cond_true]
    cases hl : s.sessAt o with
    | none => exact ⟨h, (by decide : (0 : Int) ≤ 1), (by decide : (1 : Int) ≤ 4)⟩
    | some i => exact ⟨h.shut hn (by have := (ZaL hl).2.1; omega), (by decide : (0 : Int) ≤ 0), (by decide : (0 : Int) ≤ 4)⟩
  rw [dF h5]
  by_cases h6 : k = 6
  · rw [dT h6]
    simp only [cond_false, cond_true]
    have hpp : DI (s.put key val).2 n := by
      rcases hp with hp | hp
      · obtain ⟨a, b, c⟩ := hp; omega
      · exact hp
    cases s.sessAt o with
    | none => exact ⟨h, (by decide : (0 : Int) ≤ 1), (by decide : (1 : Int) ≤ 4)⟩
    | some i =>
      simp only []
      have fin : DI (bif (s.put key val).1 then ((0 : Int), (s.put key val).2.hold key o) else (4, (s.put key val).2)).2 n ∧ 0 ≤ (bif (s.put key val).1 then ((0 : Int), (s.put key val).2.hold key o) else (4, (s.put key val).2)).1 ∧ (bif (s.put key val).1 then ((0 : Int), (s.put key val).2.hold key o) else (4, (s.put key val).2)).1 ≤ 4 := by
        cases (s.put key val).1 with
        | true => exact ⟨hpp.hold ho, (by decide : (0 : Int) ≤ 0), (by decide : (0 : Int) ≤ 4)⟩
        | false => exact ⟨hpp, (by decide : (0 : Int) ≤ 4), (by decide : (4 : Int) ≤ 4)⟩
      cases s.look key with
      | none => exact fin
      | some j =>
        simp only []
        cases !decide (gi (rd s.rows j) 3 = 0) && !decide (gi (rd s.rows j) 3 = o) with
        | true => exact ⟨h, (by decide : (0 : Int) ≤ 2), (by decide : (2 : Int) ≤ 4)⟩
        | false => exact fin
  rw [dF h6]
  by_cases h7 : k = 7
  · rw [dT h7]
    simp only [cond_false, cond_true]
    cases hl : s.look key with
    | none => exact ⟨h, (by decide : (0 : Int) ≤ 1), (by decide : (1 : Int) ≤ 4)⟩
    | some j =>
      have hj := look_lt hl
      simp only []
      cases decide (gi (rd s.rows j) 3 = o) with
      | true => exact ⟨h.setRow hj (h.rows _ (ZbZ hj)).2.1 (h.idxI hn) I64_z, (by decide : (0 : Int) ≤ 0), (by decide : (0 : Int) ≤ 4)⟩
      | false => exact ⟨h, (by decide : (0 : Int) ≤ 1), (by decide : (1 : Int) ≤ 4)⟩
  rw [dF h7]
  exact ⟨h, (by decide : (0 : Int) ≤ 0), (by decide : (0 : Int) ≤ 4)⟩
def D_Cmd (c : V) : Prop := gi c 0 < 0 ∨ ((gl c 3 ∈ K5 ∨ (gl c 3 = [] ∧ opN (gi c 2))) ∧ BS (gl c 4) ∧ I64 (gi c 5) ∧ I64 (gi c 0) ∧ I64 (gi c 1))
theorem DI.up {s : SD} {n : Nat} (h : DI s n) : DI s.up (n + 1) := by
  refine ⟨?_, ?_, h.rows, h.tombs, h.lost, h.sessL, h.sess, Nat.le_succ_of_le h.lastsL, h.lasts, h.nd⟩
  · show 0 ≤ s.idx + 1; have := h.idx0; omega
  · show s.idx + 1 ≤ ((n + 1 : Nat) : Int); have := h.idx1; omega
theorem DI.apply {s : SD} {n : Nat} (h : DI s n) (hn : n ≤ 900) {c : V} (hc : D_Cmd c) : DI (s.apply c).2 (n + 1) := by
  have hu := h.up
  have hiu := hu.idxI (by omega)
  unfold SD.apply
  by_cases h0 : gi c 0 < 0
  · rw [dT h0]; exact hu
  rw [dF h0]
  rcases hc with hc | ⟨hk, hv, ho, hc0, hc1⟩
  · exact absurd hc h0
  obtain ⟨d1, d2, d3⟩ := hu.do' (by omega) hk hv ho
  have hdl := do_lasts s.up (gi c 2) (gl c 3) (gl c 4) (gi c 5)
  have hco : I64 (s.up.do' (gi c 2) (gl c 3) (gl c 4) (gi c 5)).1 := ⟨by omega, by omega⟩
  have hcl := firstCl_le s.lasts (gi c 0)
  generalize Zbu s.lasts (gi c 0) = k at *
  simp only [cond_false]
  have fin : ∀ l : List V, l.length ≤ n + 1 → (∀ x ∈ l, I64 (gi x 0) ∧ I64 (gi x 1) ∧ I64 (gi x 2) ∧ I64 (gi x 3)) → DI { (s.up.do' (gi c 2) (gl c 3) (gl c 4) (gi c 5)).2 with lasts := l } (n + 1) := fun l h1 h2 =>
    ⟨d1.idx0, d1.idx1, d1.rows, d1.tombs, d1.lost, d1.sessL, d1.sess, h1, h2, d1.nd⟩
  have hL := h.lastsL
  have hnew : DI { (s.up.do' (gi c 2) (gl c 3) (gl c 4) (gi c 5)).2 with lasts := insAt s.lasts k (lastV (gi c 0) (gi c 1) (s.up.do' (gi c 2) (gl c 3) (gl c 4) (gi c 5)).1 (s.idx + 1)) } (n + 1) := by
    refine fin _ (by rw [insAt_len hcl]; omega) fun x hx => ?_
    rcases mem_insAt hx with rfl | hx
    · exact ⟨hc0, hc1, hco, hiu⟩
    · exact h.lasts x hx
  by_cases hk1 : k < s.lasts.length
  case neg => rw [dF hk1]; exact hnew
  rw [dT hk1]
  by_cases hk2 : gi (rd s.lasts k) 0 = gi c 0
  case neg => rw [dF hk2]; exact hnew
  rw [dT hk2]
  simp only [Bool.and_self, cond_true]
  by_cases hk3 : gi (rd s.lasts k) 1 = gi c 1
  · rw [dT hk3]; exact hu
  rw [dF hk3]
  simp only [cond_false]
  by_cases hk4 : gi c 1 < gi (rd s.lasts k) 1
  · rw [dT hk4]; exact hu
  rw [dF hk4]
  refine fin _ (by rw [List.length_set]; omega) fun x hx => ?_
  rcases List.mem_or_eq_of_mem_set hx with hx | hx
  · exact h.lasts x hx
  · subst hx; exact ⟨(h.lasts _ (ZbZ hk1)).1, hc1, hco, hiu⟩
theorem app_K {s : SD} {n : Nat} (h : DI s n) (hn : n ≤ 900) {c : V} (hc : D_Cmd c) (hk : (gl c 3).length ≤ 1000) (hv : (gl c 4).length ≤ 1000) : Ok (fun r => ∃ s', DI s' (n + 1) ∧ r.2 = s'.v) (ZD s.v c) := by
  have hf := h.few; have h1 := h.sessL; have h2 := h.lastsL; have i0 := h.idx0; have i1 := h.idx1
  exact ⟨_, spec_apply_eq (by omega) (by omega) (by omega) (by omega) (by omega) hk hv, _, h.apply hn hc, rfl⟩
end Go.Eng.R
open Go Go.Eng
namespace Go.Eng.R
set_option maxRecDepth 100000
def nb (b1 : V) : V := V.agg [(V.int .i64 (gi b1 0)), (V.sl 3 Zg 0 none), (V.sl 4 Zf 0 none), (V.int .i64 (gi b1 3)), (V.sl 5 Zd 0 none), (V.sl 6 Ze 0 none)]
def StR (r : V × V × V × List V × List V × List V × List V × List V × List V × List V × List V) : Prop :=
  Z1 r.1 ∧ ∃ (s' : SD) (m : Nat), m ≤ 20 ∧ DI s' m ∧ r.2.2.1 = s'.b 7 8 9 10 ∧ r.2.2.2.2.2.2.2.1 = s'.rows ∧ r.2.2.2.2.2.2.2.2.1 = s'.tombs ∧ r.2.2.2.2.2.2.2.2.2.1 = s'.sess ∧ r.2.2.2.2.2.2.2.2.2.2 = s'.lasts
theorem opKey_len {k : List V} {o : Int} (h : k ∈ K5 ∨ (k = [] ∧ opN o)) : k.length ≤ 1000 := by
  rcases h with h | ⟨rfl, -⟩
  · have := (K5_bs h).2; omega
  · exact Nat.zero_le _
theorem state_loop {n4 : Int} (hn : n4 ≤ 20) : ∀ (k i : Nat) (s : SD) (c b1 : V) (r3 r4 r5 r6 : List V), Z1 c → DI s i → (i : Int) ≤ n4 → (n4 - (i : Int)).toNat < k →
    Ok StR (Zz k n4 (i : Int) (Zb c) b1 (s.b 7 8 9 10) r3 r4 r5 r6 s.rows s.tombs s.sess s.lasts)
  | 0, i, s, c, b1, r3, r4, r5, r6, hc, h, hi, hk => by omega
  | k + 1, i, s, c, b1, r3, r4, r5, r6, hc, h, hi, hk => by
    rw [Zz]
    by_cases hin : (i : Int) < n4
    case neg => rw [dF hin]; exact ⟨_, rfl, hc, s, i, by omega, h, rfl, rfl, rfl, rfl, rfl⟩
    rw [dT hin]
    simp only [cond_true]
    have ew : IntKind.i64.wrap ((i : Int) + 1) = ((i + 1 : Nat) : Int) := by rw [ZaC (by omega) (by omega)]; omega
    have fin : ∀ (cm cur : V), Z1 cur → D_Cmd cm → (gl cm 3).length ≤ 1000 → (gl cm 4).length ≤ 1000 → Ok StR (Option.bind (ZD s.v cm) fun r =>
        Zz k n4 (IntKind.i64.wrap ((i : Int) + 1)) (Zb cur) (nb b1) (V.agg [(V.int .i64 (gi r.2 0)), (V.sl 7 Zg 0 none), (V.sl 8 Zf 0 none), (V.int .i64 (gi r.2 3)), (V.sl 9 Zd 0 none), (V.sl 10 Ze 0 none)]) r3 r4 r5 r6 (gl r.2 1) (gl r.2 2) (gl r.2 4) (gl r.2 5)) := fun cm cur hcur hcm h3 h4 => by
      refine Ok.bind (app_K h (by omega) hcm h3 h4) ?_
      rintro ⟨rp, st⟩ ⟨s', hs', e⟩
      have e : st = s'.v := e
      subst e
      rw [ew]
      exact state_loop hn k (i + 1) s' cur (nb b1) r3 r4 r5 r6 hcur hs' (by omega) (by omega)
    have none' : ∀ cur : V, Z1 cur → Ok StR (Option.bind (ZD s.v (V.agg [(V.int .i64 (-1)), (V.int .i64 0), (V.int .i64 0), (V.inl Zc []), (V.inl Zc []), (V.int .i64 0)])) fun r =>
        Zz k n4 (IntKind.i64.wrap ((i : Int) + 1)) (Zb cur) (nb b1) (V.agg [(V.int .i64 (gi r.2 0)), (V.sl 7 Zg 0 none), (V.sl 8 Zf 0 none), (V.int .i64 (gi r.2 3)), (V.sl 9 Zd 0 none), (V.sl 10 Ze 0 none)]) r3 r4 r5 r6 (gl r.2 1) (gl r.2 2) (gl r.2 4) (gl r.2 5)) := fun cur hcur =>
      fin _ cur hcur (.inl (show (-1 : Int) < 0 by omega)) (Nat.zero_le _) (Nat.zero_le _)
    have some' : ∀ (cur o : V) (x m : Int), Z1 cur → D_Op o → I64 x → I64 m → Ok StR (Option.bind (ZD s.v (V.agg [(V.int .i64 x), (V.int .i64 (IntKind.i64.wrap (1 + (i : Int)))), (V.int .i64 (gi o 0)), (V.inl Zc (gl o 1)), (V.inl Zc (gl o 2)), (V.int .i64 m)])) fun r =>
        Zz k n4 (IntKind.i64.wrap ((i : Int) + 1)) (Zb cur) (nb b1) (V.agg [(V.int .i64 (gi r.2 0)), (V.sl 7 Zg 0 none), (V.sl 8 Zf 0 none), (V.int .i64 (gi r.2 3)), (V.sl 9 Zd 0 none), (V.sl 10 Ze 0 none)]) r3 r4 r5 r6 (gl r.2 1) (gl r.2 2) (gl r.2 4) (gl r.2 5)) := fun cur o x m hcur ho hx hm =>
      fin _ cur hcur (.inr ⟨ho.1, ho.2.1, hm, hx, wrI _⟩) (opKey_len ho.1) (by have := ho.2.1.2; show (gl o 2).length ≤ 1000; omega)
    refine Ok.bind2 (ZbF hc 3) ?_
    rintro x c1 ⟨h1, x0, x1, -⟩
    have hx : I64 x := ⟨by omega, by omega⟩
    refine Ok.bind2 (op_K h1 _) ?_
    rintro o c2 ⟨h2, ho⟩
    by_cases hi0 : (i : Int) = 0
    · rw [dT hi0]
      simp only [cond_true]
      refine Ok.bind2 (ZbF h2 2) ?_
      rintro y c3 ⟨h3, y0, y1, -⟩
      refine Ok.bind (once_O h3 9) ?_
      rintro ⟨b, c4⟩ h4
      cases b with
      | true => exact none' c4 h4
      | false => exact some' c4 (V.agg [(V.int .i64 4), (V.inl Zc []), (V.inl Zc []), (V.int .i64 y)]) x y h4 ⟨.inr ⟨rfl, by show (4 : Int) ≠ 1; omega, by show (4 : Int) ≠ 2; omega, by show (4 : Int) ≠ 6; omega⟩, BS.nil, ⟨by show (-9223372036854775808 : Int) ≤ 4; omega, by show (4 : Int) ≤ 9223372036854775807; omega⟩, ⟨by show (-9223372036854775808 : Int) ≤ y; omega, by show y ≤ 9223372036854775807; omega⟩⟩ hx ⟨by omega, by omega⟩
    rw [dF hi0]
    simp only [cond_false]
    have last : ∀ cur : V, Z1 cur → Ok StR (Option.bind (Za0 (Zb cur) 9) fun q => bif q.1 then (Option.bind (ZD s.v (V.agg [(V.int .i64 (-1)), (V.int .i64 0), (V.int .i64 0), (V.inl Zc []), (V.inl Zc []), (V.int .i64 0)])) fun r =>
          Zz k n4 (IntKind.i64.wrap ((i : Int) + 1)) (Zb q.2) (nb b1) (V.agg [(V.int .i64 (gi r.2 0)), (V.sl 7 Zg 0 none), (V.sl 8 Zf 0 none), (V.int .i64 (gi r.2 3)), (V.sl 9 Zd 0 none), (V.sl 10 Ze 0 none)]) r3 r4 r5 r6 (gl r.2 1) (gl r.2 2) (gl r.2 4) (gl r.2 5))
        else (Option.bind (ZD s.v (V.agg [(V.int .i64 x), (V.int .i64 (IntKind.i64.wrap (1 + (i : Int)))), (V.int .i64 (gi o 0)), (V.inl Zc (gl o 1)), (V.inl Zc (gl o 2)), (V.int .i64 (gi o 3))])) fun r =>
          Zz k n4 (IntKind.i64.wrap ((i : Int) + 1)) (Zb q.2) (nb b1) (V.agg [(V.int .i64 (gi r.2 0)), (V.sl 7 Zg 0 none), (V.sl 8 Zf 0 none), (V.int .i64 (gi r.2 3)), (V.sl 9 Zd 0 none), (V.sl 10 Ze 0 none)]) r3 r4 r5 r6 (gl r.2 1) (gl r.2 2) (gl r.2 4) (gl r.2 5))) := fun cur hcur => by
      refine Ok.bind (once_O hcur 9) ?_
      rintro ⟨b, c4⟩ h4
      cases b with
      | true => exact none' c4 h4
      | false => exact some' c4 o x (gi o 3) h4 ho hx ho.2.2.2
    by_cases h5 : (5 : Int) ≤ gi o 0
    case neg => rw [dF h5]; exact last c2 h2
    rw [dT h5]
    by_cases hs : 0 < s.sess.length
    case neg => rw [dF (show ¬ (0 : Int) < ((s.sess.length : Nat) : Int) by omega)]; exact last c2 h2
    rw [dT (show (0 : Int) < ((s.sess.length : Nat) : Int) by omega)]
    simp only [cond_true]
    refine Ok.bind (once_O h2 3) ?_
    rintro ⟨b, c3⟩ h3
    cases b with
    | true => exact last c3 h3
    | false =>
      simp only [Bool.not_false, cond_true]
      refine Ok.bind2 (ZbF h3 _) ?_
      rintro y c4 ⟨h4, y0, y1, y2⟩
      have hy : y.toNat < s.sess.length := by omega
      rw [idx_of y0 (by omega)]
      simp only [cond_true]
      refine Ok.bind (once_O h4 9) ?_
      rintro ⟨b, c5⟩ h5'
      cases b with
      | true => exact none' c5 h5'
      | false => exact some' c5 o x (gi (rd s.sess (0 + y.toNat)) 0) h5' ho hx (by rw [Nat.zero_add]; exact h.sess _ (ZbZ hy))
theorem state_O {c : V} (h : Z1 c) : Ok2 (fun st c => Z1 c ∧ ∃ (s : SD) (m : Nat), m ≤ 20 ∧ DI s m ∧ st = s.v) (Zdy (Zb c)) := by
  unfold Zdy
  refine .of ?_
  refine Ok.bind2 (ZbF h 20) ?_
  rintro n c1 ⟨h1, n0, n1, n2⟩
  have hz : DI ⟨0, [], [], 0, [], []⟩ 0 := ⟨Int.le_refl _, Int.le_refl _, fun _ h => (by cases h), fun _ h => (by cases h), I64_z, Nat.zero_le _, fun _ h => (by cases h), Nat.le_refl _, fun _ h => (by cases h), List.nodup_nil⟩
  refine Ok.bind (state_loop (n4 := n) (by omega) ((n - 0).toNat + 1) 0 ⟨0, [], [], 0, [], []⟩ c1 _ [] [] [] [] h1 hz n0 (by omega)) ?_
  rintro r ⟨hc, s, m, hm, hs, e1, e2, e3, e4, e5⟩
  refine ⟨_, rfl, hc, s, m, hm, hs, ?_⟩
  rw [e1, e2, e3, e4, e5]; rfl
structure BI (s : SD) : Prop where
  idx : I64 s.idx
  rowsL : s.rows.length ≤ 30
  rows : ∀ r ∈ s.rows, BS (gl r 0) ∧ BS (gl r 1) ∧ I64 (gi r 2) ∧ I64 (gi r 3)
  tombsL : s.tombs.length ≤ 30
  tombs : ∀ r ∈ s.tombs, BS (gl r 0) ∧ I64 (gi r 1)
  lost : I64 s.lost
  sessL : s.sess.length ≤ 30
  sess : ∀ x ∈ s.sess, I64 (gi x 0)
  lastsL : s.lasts.length ≤ 30
  lasts : ∀ x ∈ s.lasts, I64 (gi x 0) ∧ I64 (gi x 1) ∧ I64 (gi x 2) ∧ I64 (gi x 3)
theorem DI.bi {s : SD} {m : Nat} (hm : m ≤ 20) (h : DI s m) : BI s := by
  have hf := h.few; have hs := h.sessL; have hl := h.lastsL
  exact ⟨h.idxI (by omega), by omega, fun r hr => ⟨K5_bs (h.rows r hr).1, (h.rows r hr).2⟩, by omega, fun r hr => ⟨K5_bs (h.tombs r hr).1, (h.tombs r hr).2⟩, h.lost, by omega, h.sess, by omega, h.lasts⟩
theorem BI.W {s : SD} (h : BI s) : Za9 s.v := by
  have h1 := h.rowsL; have h2 := h.tombsL; have h3 := h.sessL; have h4 := h.lastsL
  exact ⟨h.idx, ⟨by show s.rows.length ≤ _; omega, fun r hr => ⟨(h.rows r hr).1.1, (h.rows r hr).2.1.1, (h.rows r hr).2.2⟩⟩, ⟨by show s.tombs.length ≤ _; omega, fun r hr => ⟨(h.tombs r hr).1.1, (h.tombs r hr).2⟩⟩, h.lost, ⟨by show s.sess.length ≤ _; omega, fun r hr => ⟨h.sess r hr, trivial⟩⟩, ⟨by show s.lasts.length ≤ _; omega, fun r hr => h.lasts r hr⟩⟩
end Go.Eng.R
open Go Go.Eng
namespace Go.Eng.R
set_option maxRecDepth 100000
def StB (r : V × V) : Prop := Z1 r.2 ∧ ∃ s : SD, BI s ∧ r.1 = s.v
theorem BI.setRow {s : SD} (h : BI s) (j : Nat) {x : V} (hx : BS (gl x 0) ∧ BS (gl x 1) ∧ I64 (gi x 2) ∧ I64 (gi x 3)) : BI { s with rows := s.rows.set j x } :=
  ⟨h.idx, by show (s.rows.set j x).length ≤ 30; rw [List.length_set]; exact h.rowsL, fun r hr => (List.mem_or_eq_of_mem_set hr).elim (h.rows r) fun e => e ▸ hx, h.tombsL, h.tombs, h.lost, h.sessL, h.sess, h.lastsL, h.lasts⟩
theorem bent_S {c : V} (h : Z1 c) : Ok StB (ZdL (Zb c)) := by
  unfold ZdL
  refine Ok.bind2 (state_O h) ?_
  rintro st c1 ⟨h1, s, m, hm, hs, rfl⟩
  have hb := hs.bi hm
  have hf := hs.few; have hsl := hs.sessL; have hll := hs.lastsL
  have same : ∀ cur : V, Z1 cur → Ok StB (some (Za s.v, Zb cur)) := fun cur hc => ⟨_, rfl, hc, s, hb, rfl⟩
  refine Ok.bind (once_O h1 6) ?_
  rintro ⟨b, c2⟩ h2
  cases b with
  | false => exact same c2 h2
  | true =>
  simp only [Bool.not_true, cond_false]
  refine Ok.bind2 (ZbF h2 8) ?_
  rintro k c3 ⟨h3, -, -, -⟩
  by_cases k0 : k = 0
  · rw [dT k0]
    simp only [cond_true]
    refine Ok.bind2 (pick_P h3 (by decide) ⟨⟨by decide, by decide⟩, ⟨by decide, by decide⟩, ⟨by decide, by decide⟩, ⟨by decide, by decide⟩, trivial⟩) ?_
    rintro x c4 ⟨h4, hx⟩
    exact ⟨_, rfl, h4, { s with idx := x }, ⟨hx, hb.rowsL, hb.rows, hb.tombsL, hb.tombs, hb.lost, hb.sessL, hb.sess, hb.lastsL, hb.lasts⟩, rfl⟩
  rw [dF k0]
  by_cases k1 : k = 1
  · rw [dT k1]
    simp only [cond_false, cond_true]
    by_cases hr : 0 < s.rows.length
    case neg => rw [show decide ((0 : Int) < ((gl s.v 1).length : Int)) = false from dF (by show ¬ (0 : Int) < ((s.rows.length : Nat) : Int); omega)]; exact same c3 h3
    rw [show decide ((0 : Int) < ((gl s.v 1).length : Int)) = true from dT (by show (0 : Int) < ((s.rows.length : Nat) : Int); omega)]
    simp only [cond_true]
    refine Ok.bind2 (ZbF h3 9) ?_
    rintro y c4 ⟨h4, y0, y1, -⟩
    rw [show Zm 0 (gl s.v 1).length = true from idx_of (by omega) (by show (0 : Int) < ((s.rows.length : Nat) : Int); omega)]
    obtain ⟨q1, q2, q3, q4⟩ := hb.rows _ (ZbZ hr)
    exact ⟨_, rfl, h4, _, hb.setRow 0 (x := rowV (gl (rd s.rows 0) 0) (gl (rd s.rows 0) 1) (gi (rd s.rows 0) 2) y) ⟨q1, q2, q3, ⟨by show (-9223372036854775808 : Int) ≤ y; omega, by show y ≤ 9223372036854775807; omega⟩⟩, rfl⟩
  rw [dF k1]
  by_cases k2 : k = 2
  · rw [dT k2]
    simp only [cond_false, cond_true]
    by_cases hr : 0 < s.rows.length
    case neg => rw [show decide ((0 : Int) < ((gl s.v 1).length : Int)) = false from dF (by show ¬ (0 : Int) < ((s.rows.length : Nat) : Int); omega)]; exact same c3 h3
    rw [show decide ((0 : Int) < ((gl s.v 1).length : Int)) = true from dT (by show (0 : Int) < ((s.rows.length : Nat) : Int); omega)]
    simp only [cond_true]
    refine Ok.bind2 (pick_P h3 (by decide) ⟨⟨by decide, by decide⟩, ⟨by decide, by decide⟩, ⟨by decide, by decide⟩, trivial⟩) ?_
    rintro y c4 ⟨h4, hy⟩
    rw [show Zm 0 (gl s.v 1).length = true from idx_of (by omega) (by show (0 : Int) < ((s.rows.length : Nat) : Int); omega)]
    obtain ⟨q1, q2, q3, q4⟩ := hb.rows _ (ZbZ hr)
    exact ⟨_, rfl, h4, _, hb.setRow 0 (x := rowV (gl (rd s.rows 0) 0) (gl (rd s.rows 0) 1) y (gi (rd s.rows 0) 3)) ⟨q1, q2, hy, q4⟩, rfl⟩
  rw [dF k2]
  by_cases k3 : k = 3
  · rw [dT k3]
    simp only [cond_false, cond_true]
    refine Ok.bind2 (drawKey_K h3) ?_
    rintro y c4 ⟨h4, hy⟩
    rw [show (Zv ((gl s.v 2).length + 1) 32 && true) = true from Zac (by show (s.tombs.length + 1) * 32 ≤ _; omega) (by show s.tombs.length + 1 ≤ _; omega)]
    refine ⟨_, rfl, h4, { s with tombs := s.tombs ++ [tombV y s.idx] }, ⟨hb.idx, hb.rowsL, hb.rows, by show (s.tombs ++ [_]).length ≤ 30; rw [List.length_append, List.length_singleton]; omega, fun r hr => ?_, hb.lost, hb.sessL, hb.sess, hb.lastsL, hb.lasts⟩, rfl⟩
    rcases List.mem_append.1 hr with hr | hr
    · exact hb.tombs r hr
    · rw [List.mem_singleton.1 hr]; exact ⟨K5_bs hy, hb.idx⟩
  rw [dF k3]
  by_cases k4 : k = 4
  · rw [dT k4]
    simp only [cond_false, cond_true]
    refine Ok.bind2 (pick_P h3 (by decide) ⟨⟨by decide, by decide⟩, ⟨by decide, by decide⟩, ⟨by decide, by decide⟩, trivial⟩) ?_
    rintro x c4 ⟨h4, hx⟩
    exact ⟨_, rfl, h4, { s with lost := x }, ⟨hb.idx, hb.rowsL, hb.rows, hb.tombsL, hb.tombs, hx, hb.sessL, hb.sess, hb.lastsL, hb.lasts⟩, rfl⟩
  rw [dF k4]
  by_cases k5 : k = 5
  · rw [dT k5]
    simp only [cond_false, cond_true]
    refine Ok.bind2 (ZbF h3 9) ?_
    rintro y c4 ⟨h4, y0, y1, -⟩
    rw [show (Zv ((gl s.v 4).length + 1) 16 && true) = true from Zac (by show (s.sess.length + 1) * 16 ≤ _; omega) (by show s.sess.length + 1 ≤ _; omega)]
    refine ⟨_, rfl, h4, { s with sess := s.sess ++ [sessV y false] }, ⟨hb.idx, hb.rowsL, hb.rows, hb.tombsL, hb.tombs, hb.lost, by show (s.sess ++ [_]).length ≤ 30; rw [List.length_append, List.length_singleton]; omega, fun r hr => ?_, hb.lastsL, hb.lasts⟩, rfl⟩
    rcases List.mem_append.1 hr with hr | hr
    · exact hb.sess r hr
    · rw [List.mem_singleton.1 hr]; exact ⟨by show (-9223372036854775808 : Int) ≤ y; omega, by show y ≤ 9223372036854775807; omega⟩
  rw [dF k5]
  by_cases k6 : k = 6
  · rw [dT k6]
    simp only [cond_false, cond_true]
    refine Ok.bind2 (ZbF h3 6) ?_
    rintro y c4 ⟨h4, y0, y1, -⟩
    rw [show (Zv ((gl s.v 5).length + 1) 32 && true) = true from Zac (by show (s.lasts.length + 1) * 32 ≤ _; omega) (by show s.lasts.length + 1 ≤ _; omega)]
    refine ⟨_, rfl, h4, { s with lasts := s.lasts ++ [lastV (IntKind.i64.wrap (y - 1)) 1 0 1] }, ⟨hb.idx, hb.rowsL, hb.rows, hb.tombsL, hb.tombs, hb.lost, hb.sessL, hb.sess, by show (s.lasts ++ [_]).length ≤ 30; rw [List.length_append, List.length_singleton]; omega, fun r hr => ?_⟩, rfl⟩
    rcases List.mem_append.1 hr with hr | hr
    · exact hb.lasts r hr
    · rw [List.mem_singleton.1 hr]
      have o1 : I64 1 := ⟨by decide, by decide⟩
      exact ⟨wrI _, o1, I64_z, o1⟩
  rw [dF k6]
  simp only [cond_false]
  by_cases hr : 0 < s.rows.length
  case neg => rw [show decide ((0 : Int) < ((gl s.v 1).length : Int)) = false from dF (by show ¬ (0 : Int) < ((s.rows.length : Nat) : Int); omega)]; exact same c3 h3
  rw [show decide ((0 : Int) < ((gl s.v 1).length : Int)) = true from dT (by show (0 : Int) < ((s.rows.length : Nat) : Int); omega)]
  simp only [cond_true]
  refine Ok.bind2 (ZbF h3 3) ?_
  rintro y c4 ⟨h4, y0, y1, y2⟩
  rw [idx_of (n := 3) y0 (by omega), show Zm 0 (gl s.v 1).length = true from idx_of (by omega) (by show (0 : Int) < ((s.rows.length : Nat) : Int); omega)]
  obtain ⟨q1, q2, q3, q4⟩ := hb.rows _ (ZbZ hr)
  have hk : BS (gs (rd [(V.str []), (V.str [(V.int .u8 65)]), (V.str [(V.int .u8 122), (V.int .u8 122)])] (0 + y.toNat)) 0) := bsAll_rd rfl (by simp; omega)
  exact ⟨_, rfl, h4, _, hb.setRow 0 (x := rowV (gs (rd [(V.str []), (V.str [(V.int .u8 65)]), (V.str [(V.int .u8 122), (V.int .u8 122)])] (0 + y.toNat)) 0) (gl (rd s.rows 0) 1) (gi (rd s.rows 0) 2) (gi (rd s.rows 0) 3)) ⟨hk, q2, q3, q4⟩, rfl⟩
theorem drawHeld_O {code : List V} (h : LW Zcu code) : Ok (fun r => ∃ s : SD, BI s ∧ r.1 = s.v) (Zdd code) := by
  unfold Zdd
  refine Ok.bind (new_O h) ?_
  intro c0 h0
  refine Ok.bind (bent_S h0) ?_
  rintro ⟨st, c1⟩ ⟨h1, s, hb, e⟩
  have h1 : Z1 c1 := h1
  have e : st = s.v := e
  subst e
  have fin : ∀ cur : V, Z1 cur → Ok (fun r : V × Int => ∃ s : SD, BI s ∧ r.1 = s.v) (Option.bind (Zh (Zb cur) 9) fun r => some ((Za s.v), (IntKind.i64.wrap (r.1 - 1)))) := fun cur hc => by
    refine Ok.bind2 (ZbF hc 9) ?_
    rintro y c4 -
    exact ⟨_, rfl, s, hb, rfl⟩
  by_cases hs : 0 < s.sess.length
  case neg => rw [show decide ((0 : Int) < ((gl s.v 4).length : Int)) = false from dF (by show ¬ (0 : Int) < ((s.sess.length : Nat) : Int); omega)]; exact fin c1 h1
  rw [show decide ((0 : Int) < ((gl s.v 4).length : Int)) = true from dT (by show (0 : Int) < ((s.sess.length : Nat) : Int); omega)]
  simp only [cond_true]
  refine Ok.bind (once_O h1 4) ?_
  rintro ⟨b, c2⟩ h2
  cases b with
  | true => exact fin c2 h2
  | false =>
    simp only [Bool.not_false, cond_true]
    refine Ok.bind2 (ZbF h2 _) ?_
    rintro y c4 ⟨h4, y0, y1, y2⟩
    rw [show Zm y (gl s.v 4).length = true from idx_of y0 (by show y < ((s.sess.length : Nat) : Int); have y2 : y < ((s.sess.length : Nat) : Int) ∨ y = 0 := y2; omega)]
    exact ⟨_, rfl, s, hb, rfl⟩
end Go.Eng.R
open Go Go.Eng
namespace Go.Eng.R
set_option maxRecDepth 100000
def AscI (l : List V) : Prop := ∀ i, i + 1 < l.length → gi (rd l i) 0 < gi (rd l (i + 1)) 0
def lbI (l : List V) (id : Int) : Nat := (l.takeWhile (fun x => decide (gi x 0 < id))).length
def hasI (l : List V) (id : Int) : Bool := decide (lbI l id < l.length) && decide (gi (rd l (lbI l id)) 0 = id)
theorem lbI_le (l : List V) (id : Int) : lbI l id ≤ l.length := (List.takeWhile_prefix _).sublist.length_le
theorem AscI.tail {x : V} {l : List V} (h : AscI (x :: l)) : AscI l := fun i hi => h (i + 1) (by simpa using hi)
theorem AscI.lt {l : List V} (h : AscI l) : ∀ (j i : Nat), i < j → j < l.length → gi (rd l i) 0 < gi (rd l j) 0
  | 0, i, hi, _ => by omega
  | j + 1, i, hi, hj => by
    have h1 := h j hj
    rcases Nat.lt_or_ge i j with c | c
    · have := AscI.lt h j i c (by omega); omega
    · obtain rfl : i = j := by omega
      exact h1
theorem lbI_spec : ∀ {l : List V}, AscI l → ∀ (id : Int) (i : Nat), i < l.length → decide (gi (rd l i) 0 < id) = decide (i < lbI l id)
  | [], _, _, i, hi => by simp at hi
  | x :: l, h, id, i, hi => by
    unfold lbI
    by_cases hx : gi x 0 < id
    · rw [List.takeWhile_cons, if_pos (by simpa using hx), List.length_cons]
      cases i with
      | zero => rw [decide_eq_true (p := gi (rd (x :: l) 0) 0 < id) hx, decide_eq_true (by omega)]
      | succ i =>
        have := lbI_spec h.tail id i (by simpa using hi)
        unfold lbI at this
        rw [show rd (x :: l) (i + 1) = rd l i from rfl, this]
        congr 1
        exact propext ⟨fun c => by omega, fun c => by omega⟩
    · rw [List.takeWhile_cons, if_neg (by simpa using hx)]
      have h0 : ¬ gi (rd (x :: l) i) 0 < id := by
        cases i with
        | zero => exact hx
        | succ i => have := h.lt (i + 1) 0 (by omega) hi; intro c; exact hx (Int.lt_trans this c)
      rw [decide_eq_false h0, decide_eq_false (by simp)]
theorem last_neg {l : V} {t : Int} (h : 0 ≤ gi l 0 ∧ gi l 0 ≤ 3) (ht : 0 ≤ t ∧ t ≤ 3) : decide (ZbO (Zap l) t < 0) = decide (gi l 0 < t) := by
  show decide (IntKind.i64.wrap (gi l 0 - t) < 0) = _
  rw [ZaC (by omega) (by omega)]
  by_cases h1 : gi l 0 < t
  · rw [decide_eq_true h1, decide_eq_true (by omega)]
  · rw [decide_eq_false h1, decide_eq_false (by omega)]
theorem last_zero {l : V} {t : Int} (h : 0 ≤ gi l 0 ∧ gi l 0 ≤ 3) (ht : 0 ≤ t ∧ t ≤ 3) : decide (ZbO (Zap l) t = 0) = decide (gi l 0 = t) := by
  show decide (IntKind.i64.wrap (gi l 0 - t) = 0) = _
  rw [ZaC (by omega) (by omega)]
  by_cases h1 : gi l 0 = t
  · rw [decide_eq_true h1, decide_eq_true (by omega)]
  · rw [decide_eq_false h1, decide_eq_false (by omega)]
theorem bsI_eq {S : List V} (hS : S.length ≤ 4194304) (ha : AscI S) (hb : ∀ i, i < S.length → 0 ≤ gi (rd S i) 0 ∧ gi (rd S i) 0 ≤ 3) {t : Int} (ht : 0 ≤ t ∧ t ≤ 3) : ZaB S t = some (((lbI S t : Nat) : Int), hasI S t) := by
  unfold ZaB
  have hle := lbI_le S t
  rw [ZaT, show (0 : Int) = ((0 : Nat) : Int) from rfl, bs_loop (F := fun m i j => ZK m S t ((S.length : Nat) : Int) i j) (x := S) (p := fun r => decide (gi r 0 < t)) (n0 := lbI S t) (out := fun i => some (S, t, ((S.length : Nat) : Int), i)) (by omega) (lbI_spec ha t) ?_ ?_ (S.length + 1) 0 S.length (by omega) hle (by omega) (by omega)]
  · simp only [Option.bind_some]
    unfold hasI
    by_cases hc : lbI S t < S.length
    · rw [Z7 hc, cond_true, Zo hc, cond_true, Int.toNat_natCast, decide_eq_true hc, Bool.true_and]
      congr 2
      exact last_zero (hb _ hc) ht
    · rw [decide_eq_false (p := ((lbI S t : Nat) : Int) < ((S.length : Nat) : Int)) (by omega), decide_eq_false hc]
      rfl
  · intro m i j hij hj
    have hw := wr_mid (i := i) (j := j) (by omega)
    simp only [ZK, hw]
    rw [Z7 hij, cond_true, Zo (show (i + j) / 2 < S.length by omega), cond_true, Int.toNat_natCast, Z0 (n := S.length) (show (i + j) / 2 < S.length by omega) (by omega)]
    rw [last_neg (hb _ (show (i + j) / 2 < S.length by omega)) ht]
  · intro m i; simp only [ZK, ZX, cond_false]
theorem sv_head {s : V} (h : Zam s = true) : 0 ≤ gi s 0 ∧ gi s 0 ≤ 1000000 ∧ 0 ≤ gi s 3 ∧ gi s 3 ≤ gi s 0 ∧ (gl s 1).length ≤ 20 ∧ (gl s 2).length ≤ 10 ∧ (gl s 4).length ≤ 8 ∧ (gl s 5).length ≤ 4 := by
  unfold Zam at h
  rw [Bool.and_eq_true] at h
  exact of_decide_eq_true h.1
theorem sv_rows {s : V} (h : Zam s = true) : (List.range (gl s 1).length).all (rowB s) = true := by
  unfold Zam at h
  simp only [Bool.and_eq_true] at h
  exact h.2.1
theorem sv_row {s : V} (h : Zam s = true) {i : Nat} (hi : i < (gl s 1).length) : rowB s i = true := by
  have := sv_rows h
  rw [List.all_eq_true] at this
  exact this i (List.mem_range.2 hi)
theorem sv_tomb {s : V} (h : Zam s = true) {i : Nat} (hi : i < (gl s 2).length) : tombB s i = true := by
  unfold Zam at h
  simp only [Bool.and_eq_true] at h
  have := h.2.2.1
  rw [List.all_eq_true] at this
  exact this i (List.mem_range.2 hi)
theorem sv_sess {s : V} (h : Zam s = true) {i : Nat} (hi : i < (gl s 4).length) : sessB s i = true := by
  unfold Zam at h
  simp only [Bool.and_eq_true] at h
  have := h.2.2.2.1
  rw [List.all_eq_true] at this
  exact this i (List.mem_range.2 hi)
theorem sv_last {s : V} (h : Zam s = true) {i : Nat} (hi : i < (gl s 5).length) : lastB s i = true := by
  unfold Zam at h
  simp only [Bool.and_eq_true] at h
  have := h.2.2.2.2
  rw [List.all_eq_true] at this
  exact this i (List.mem_range.2 hi)
theorem keyB_len {k : List V} (h : keyB k = true) : k.length ≤ 20 := by
  unfold keyB at h
  simp only [Bool.and_eq_true, decide_eq_true_eq] at h
  exact h.2.1
theorem rowB_key {s : V} {i : Nat} (h : rowB s i = true) : keyB (gl (rd (gl s 1) i) 0) = true := by
  unfold rowB at h
  rw [Bool.and_eq_true] at h
  exact h.1
theorem rowB_val {s : V} {i : Nat} (h : rowB s i = true) : (gl (rd (gl s 1) i) 1).length ≤ 20 := by
  unfold rowB at h
  simp only [Bool.and_eq_true, Bool.not_eq_true', decide_eq_false_iff_not] at h
  have := h.2.1; omega
theorem rowB_hold {s : V} {i : Nat} (h : rowB s i = true) : gi (rd (gl s 1) i) 3 = 0 ∨ 0 ≤ fI (gl s 4) (gi (rd (gl s 1) i) 3) := by
  unfold rowB at h
  simp only [Bool.and_eq_true, Bool.or_eq_true, Bool.not_eq_true', decide_eq_false_iff_not, decide_eq_true_eq] at h
  have := h.2.2.2.2.1; omega
theorem tombB_key {s : V} {i : Nat} (h : tombB s i = true) : keyB (gl (rd (gl s 2) i) 0) = true := by
  unfold tombB at h
  rw [Bool.and_eq_true] at h
  exact h.1
theorem sessB_id {s : V} {i : Nat} (h : sessB s i = true) : 1 ≤ gi (rd (gl s 4) i) 0 ∧ gi (rd (gl s 4) i) 0 ≤ gi s 0 := by
  unfold sessB at h
  simp only [Bool.and_eq_true, Bool.not_eq_true', decide_eq_false_iff_not] at h
  omega
theorem sv_sess_asc {s : V} (h : Zam s = true) : AscI (gl s 4) := by
  intro i hi
  have := sv_sess h hi
  unfold sessB at this
  simp only [Bool.and_eq_true] at this
  simpa using this.2.2
theorem sv_last_asc {s : V} (h : Zam s = true) : AscI (gl s 5) := by
  intro i hi
  have := sv_last h hi
  unfold lastB at this
  simp only [Bool.and_eq_true] at this
  simpa using this.2
theorem sv_last_at {s : V} (h : Zam s = true) {i : Nat} (hi : i < (gl s 5).length) : 0 ≤ gi (rd (gl s 5) i) 0 ∧ gi (rd (gl s 5) i) 0 ≤ 3 ∧ 1 ≤ gi (rd (gl s 5) i) 1 ∧ gi (rd (gl s 5) i) 1 ≤ 1000000 ∧ 0 ≤ gi (rd (gl s 5) i) 2 ∧ gi (rd (gl s 5) i) 2 ≤ 5 ∧ 1 ≤ gi (rd (gl s 5) i) 3 ∧ gi (rd (gl s 5) i) 3 ≤ gi s 0 := by
  have := sv_last h hi
  unfold lastB at this
  rw [Bool.and_eq_true] at this
  exact of_decide_eq_true this.1
theorem lbN_at {nm : V → List V} {l : List V} (ha : AscN nm l) {t : List V} {j : Nat} (hj : j < l.length) (e : neq (nm (rd l j)) t = true) : hasN nm l t = true ∧ lbN nm l t = j := by
  have hf := find_asc ha t
  cases hh : hasN nm l t with
  | false =>
    rw [hh] at hf
    have h9 : neq (nm (rd l j)) t = false := firstI_none.1 hf j (Nat.zero_le _) (by omega)
    rw [e] at h9; cases h9
  | true =>
    rw [hh] at hf
    obtain ⟨-, h1, h2, h3⟩ := ZaL hf
    refine ⟨rfl, ?_⟩
    rcases Nat.lt_trichotomy (lbN nm l t) j with c | c | c
    · have h4 := ha.lt c hj
      rw [nlt_congr_r e, nlt_congr_l h2, nlt_irr] at h4; cases h4
    · exact c
    · have h9 : neq (nm (rd l j)) t = false := h3 j (Nat.zero_le _) c
      rw [e] at h9; cases h9
theorem Zdg {x : List V} (h : x.length ≤ 1000) : ZV x = some x := by
  unfold ZV
  rw [Zac (by omega) (by omega)]; rfl
def RowE (a b : V) : Prop := gl a 0 = gl b 0 ∧ gl a 1 = gl b 1 ∧ gi a 2 = gi b 2 ∧ gi a 3 = gi b 3
def TombE (a b : V) : Prop := gl a 0 = gl b 0 ∧ gi a 1 = gi b 1
def SameL (E : V → V → Prop) (l l' : List V) : Prop := l.length = l'.length ∧ ∀ j, j < l'.length → E (rd l j) (rd l' j)
theorem SameL.set {E : V → V → Prop} {l l' : List V} (h : SameL E l l') {i : Nat} {z : V} (hz : E z (rd l' i)) : SameL E (l.set i z) l' := by
  refine ⟨by rw [List.length_set]; exact h.1, fun j hj => ?_⟩
  by_cases hij : j = i
  · subst hij; rw [rdSetEq (by rw [h.1]; exact hj)]; exact hz
  · rw [rdSetNe hij]; exact h.2 j hj
theorem own_O {s : V} (hr : (gl s 1).length ≤ 1000) (ht : (gl s 2).length ≤ 1000) (h4 : (gl s 4).length ≤ 1000) (h5 : (gl s 5).length ≤ 1000) (hk : ∀ j, j < (gl s 1).length → (gl (rd (gl s 1) j) 0).length ≤ 1000 ∧ (gl (rd (gl s 1) j) 1).length ≤ 1000) (hk2 : ∀ j, j < (gl s 2).length → (gl (rd (gl s 2) j) 0).length ≤ 1000) :
    ∃ R T, Zc5 (Za s) = some (V.agg [(V.int .i64 (gi s 0)), (V.inl Zg R), (V.inl Zf T), (V.int .i64 (gi s 3)), (V.inl Zd (gl s 4)), (V.inl Ze (gl s 5))]) ∧ SameL RowE R (gl s 1) ∧ SameL TombE T (gl s 2) := by
  unfold Zc5
  simp only [show gl (Za s) 1 = gl s 1 from rfl, show gl (Za s) 2 = gl s 2 from rfl, show gl (Za s) 4 = gl s 4 from rfl, show gl (Za s) 5 = gl s 5 from rfl, show gi (Za s) 0 = gi s 0 from rfl, show gi (Za s) 3 = gi s 3 from rfl]
  have c1 : Zb4 (gl s 1) = some (gl s 1) := by unfold Zb4; rw [Zac (by omega) (by omega)]; rfl
  have c2 : ZbM (gl s 2) = some (gl s 2) := by unfold ZbM; rw [Zac (by omega) (by omega)]; rfl
  have c3 : Zbk (gl s 4) = some (gl s 4) := by unfold Zbk; rw [Zac (by omega) (by omega)]; rfl
  have c4 : ZbN (gl s 5) = some (gl s 5) := by unfold ZbN; rw [Zac (by omega) (by omega)]; rfl
  rw [c1, c2, c3, c4]
  simp only [Option.bind_some, ZaT]
  have L3 : ∃ R, ZaO ((gl s 1).length + 1) (((gl s 1).length : Nat) : Int) 0 (V.agg [(V.int .i64 (gi s 0)), (V.sl 2 Zg 0 none), (V.sl 3 Zf 0 none), (V.int .i64 (gi s 3)), (V.sl 4 Zd 0 none), (V.sl 5 Ze 0 none)]) (V.agg [(V.int .i64 0), (V.sl 6 Zg 0 none), (V.sl 7 Zf 0 none), (V.int .i64 0), (V.sl 8 Zd 0 none), (V.sl 9 Ze 0 none)]) (gl s 1) (gl s 2) (gl s 4) (gl s 5) [] [] [] [] =
      some ((V.agg [(V.int .i64 (gi s 0)), (V.sl 2 Zg 0 none), (V.sl 3 Zf 0 none), (V.int .i64 (gi s 3)), (V.sl 4 Zd 0 none), (V.sl 5 Ze 0 none)]), (V.agg [(V.int .i64 0), (V.sl 6 Zg 0 none), (V.sl 7 Zf 0 none), (V.int .i64 0), (V.sl 8 Zd 0 none), (V.sl 9 Ze 0 none)]), R, gl s 2, gl s 4, gl s 5, [], [], [], []) ∧ SameL RowE R (gl s 1) := by
    refine ZbS (σ := List V) (F := fun m r i => ZaO m (((gl s 1).length : Nat) : Int) i (V.agg [(V.int .i64 (gi s 0)), (V.sl 2 Zg 0 none), (V.sl 3 Zf 0 none), (V.int .i64 (gi s 3)), (V.sl 4 Zd 0 none), (V.sl 5 Ze 0 none)]) (V.agg [(V.int .i64 0), (V.sl 6 Zg 0 none), (V.sl 7 Zf 0 none), (V.int .i64 0), (V.sl 8 Zd 0 none), (V.sl 9 Ze 0 none)]) r (gl s 2) (gl s 4) (gl s 5) [] [] [] []) (n := (gl s 1).length) (fun _ r => SameL RowE r (gl s 1)) (fun o => ∃ R, o = some ((V.agg [(V.int .i64 (gi s 0)), (V.sl 2 Zg 0 none), (V.sl 3 Zf 0 none), (V.int .i64 (gi s 3)), (V.sl 4 Zd 0 none), (V.sl 5 Ze 0 none)]), (V.agg [(V.int .i64 0), (V.sl 6 Zg 0 none), (V.sl 7 Zf 0 none), (V.int .i64 0), (V.sl 8 Zd 0 none), (V.sl 9 Ze 0 none)]), R, gl s 2, gl s 4, gl s 5, [], [], [], []) ∧ SameL RowE R (gl s 1)) ?_ ?_ ⟨rfl, fun j _ => ⟨rfl, rfl, rfl, rfl⟩⟩
    · intro m i r hi hI
      obtain ⟨q1, q2, q3, q4⟩ := hI.2 i hi
      obtain ⟨k1, k2⟩ := hk i hi
      have hri : i < r.length := by rw [hI.1]; exact hi
      refine .inl ?_
      simp only [ZaO, Z7 hi, Zo hri, Int.toNat_natCast, Nat.zero_add, cond_true, List.length_set, Z0 hi (show (gl s 1).length ≤ 9223372036854775807 by omega), Zdg (show (gl (rd r i) 0).length ≤ 1000 by rw [q1]; exact k1), Zdg (show (gl (rd r i) 1).length ≤ 1000 by rw [q2]; exact k2), Option.bind_some]
      refine ⟨_, rfl, SameL.set (SameL.set (z := rowV (gl (rd r i) 0) (gl (rd r i) 1) (gi (rd r i) 2) (gi (rd r i) 3)) hI ⟨q1, q2, q3, q4⟩) ?_⟩
      rw [rdSetEq hri]
      exact ⟨q1, q2, q3, q4⟩
    · intro m r hI
      refine ⟨r, ?_, hI⟩
      simp only [ZaO, ZX, cond_false]; rfl
  obtain ⟨R, e3, hR⟩ := L3
  rw [e3]
  simp only [Option.bind_some]
  have L8 : ∃ T, ZaP ((gl s 2).length + 1) (((gl s 2).length : Nat) : Int) 0 (V.agg [(V.int .i64 (gi s 0)), (V.sl 3 Zg 0 none), (V.sl 2 Zf 0 none), (V.int .i64 (gi s 3)), (V.sl 4 Zd 0 none), (V.sl 5 Ze 0 none)]) (V.agg [(V.int .i64 0), (V.sl 6 Zg 0 none), (V.sl 7 Zf 0 none), (V.int .i64 0), (V.sl 8 Zd 0 none), (V.sl 9 Ze 0 none)]) (gl s 2) R (gl s 4) (gl s 5) [] [] [] [] =
      some ((V.agg [(V.int .i64 (gi s 0)), (V.sl 2 Zg 0 none), (V.sl 3 Zf 0 none), (V.int .i64 (gi s 3)), (V.sl 4 Zd 0 none), (V.sl 5 Ze 0 none)]), (V.agg [(V.int .i64 0), (V.sl 6 Zg 0 none), (V.sl 7 Zf 0 none), (V.int .i64 0), (V.sl 8 Zd 0 none), (V.sl 9 Ze 0 none)]), R, T, gl s 4, gl s 5, [], [], [], []) ∧ SameL TombE T (gl s 2) := by
    refine ZbS (σ := List V) (F := fun m r i => ZaP m (((gl s 2).length : Nat) : Int) i (V.agg [(V.int .i64 (gi s 0)), (V.sl 3 Zg 0 none), (V.sl 2 Zf 0 none), (V.int .i64 (gi s 3)), (V.sl 4 Zd 0 none), (V.sl 5 Ze 0 none)]) (V.agg [(V.int .i64 0), (V.sl 6 Zg 0 none), (V.sl 7 Zf 0 none), (V.int .i64 0), (V.sl 8 Zd 0 none), (V.sl 9 Ze 0 none)]) r R (gl s 4) (gl s 5) [] [] [] []) (n := (gl s 2).length) (fun _ r => SameL TombE r (gl s 2)) (fun o => ∃ T, o = some ((V.agg [(V.int .i64 (gi s 0)), (V.sl 2 Zg 0 none), (V.sl 3 Zf 0 none), (V.int .i64 (gi s 3)), (V.sl 4 Zd 0 none), (V.sl 5 Ze 0 none)]), (V.agg [(V.int .i64 0), (V.sl 6 Zg 0 none), (V.sl 7 Zf 0 none), (V.int .i64 0), (V.sl 8 Zd 0 none), (V.sl 9 Ze 0 none)]), R, T, gl s 4, gl s 5, [], [], [], []) ∧ SameL TombE T (gl s 2)) ?_ ?_ ⟨rfl, fun j _ => ⟨rfl, rfl⟩⟩
    · intro m i r hi hI
      obtain ⟨q1, q2⟩ := hI.2 i hi
      have k1 := hk2 i hi
      have hri : i < r.length := by rw [hI.1]; exact hi
      refine .inl ?_
      simp only [ZaP, Z7 hi, Zo hri, Int.toNat_natCast, Nat.zero_add, cond_true, Z0 hi (show (gl s 2).length ≤ 9223372036854775807 by omega), Zdg (show (gl (rd r i) 0).length ≤ 1000 by rw [q1]; exact k1), Option.bind_some]
      exact ⟨_, rfl, hI.set ⟨q1, q2⟩⟩
    · intro m r hI
      refine ⟨r, ?_, hI⟩
      simp only [ZaP, ZX, cond_false]; rfl
  obtain ⟨T, e8, hT⟩ := L8
  refine ⟨R, T, ?_, hR, hT⟩
  refine Eq.trans (congrArg (fun o => Option.bind o _) (show _ = _ from e8)) ?_
  rfl
theorem SameL.asc {l l' : List V} (h : SameL RowE l l') (ha : AscN (fun r => gl r 0) l') : AscN (fun r => gl r 0) l := by
  intro i hi
  rw [h.1] at hi
  show nlt (gl (rd l i) 0) (gl (rd l (i + 1)) 0) = true
  rw [(h.2 i (by omega)).1, (h.2 (i + 1) hi).1]
  exact ha i hi
end Go.Eng.R
open Go Go.Eng
namespace Go.Eng.R
set_option maxRecDepth 100000
def Zbf (l : List V) (id : Int) : List V := (l.filter fun r => decide (gi r 3 = id)).map fun r => V.inl Zc (gl r 0)
theorem heldL_len (l : List V) (id : Int) : (Zbf l id).length ≤ l.length := by
  unfold Zbf; rw [List.length_map]; exact List.length_filter_le _ _
theorem take_snoc {l : List V} {i : Nat} (h : i < l.length) : l.take (i + 1) = l.take i ++ [rd l i] := by
  rw [List.take_add_one]
  have : l[i]? = some (rd l i) := by simp [rd, List.getD, h]
  rw [this]; rfl
theorem heldL_snoc {l : List V} {i : Nat} (h : i < l.length) (id : Int) : Zbf (l.take (i + 1)) id = bif decide (gi (rd l i) 3 = id) then Zbf (l.take i) id ++ [V.inl Zc (gl (rd l i) 0)] else Zbf (l.take i) id := by
  unfold Zbf
  rw [take_snoc h, List.filter_append, List.map_append]
  cases hc : decide (gi (rd l i) 3 = id) with
  | true => rw [List.filter_cons_of_pos (by exact hc)]; rfl
  | false => rw [List.filter_cons_of_neg (by rw [hc]; exact Bool.false_ne_true)]; exact List.append_nil _
theorem impl_keys_eq {s : V} (hr : (gl s 1).length ≤ 1000) (hk : ∀ j, j < (gl s 1).length → (gl (rd (gl s 1) j) 0).length ≤ 1000) (id : Int) : ZcS (Za s) (V.agg [(V.int .i64 id)]) = some (Zbf (gl s 1) id) := by
  unfold ZcS
  simp only [show gl (Za s) 1 = gl s 1 from rfl, ZaT]
  have h : Zal ((gl s 1).length + 1) (V.agg [(V.int .i64 (gi (V.agg [(V.int .i64 id)]) 0))]) (gl s 1) (((gl s 1).length : Nat) : Int) 0 [] = some (Zbf (gl s 1) id) := by
    refine ZbS (σ := List V) (F := fun m r i => Zal m (V.agg [(V.int .i64 id)]) (gl s 1) (((gl s 1).length : Nat) : Int) i r) (n := (gl s 1).length) (fun i r => r = Zbf ((gl s 1).take i) id) (fun o => o = some (Zbf (gl s 1) id)) ?_ ?_ rfl
    · intro m i r hi hI
      subst hI
      have hl : (Zbf ((gl s 1).take i) id).length ≤ 1000 := Nat.le_trans (heldL_len _ _) (by rw [List.length_take]; omega)
      refine .inl ⟨_, ?_, rfl⟩
      rw [heldL_snoc hi]
      simp only [Zal, Z7 hi, Zo hi, Int.toNat_natCast, cond_true, Z0 hi (show (gl s 1).length ≤ 9223372036854775807 by omega), Zdg (hk i hi), Option.bind_some, Zac (show ((Zbf ((gl s 1).take i) id).length + 1) * 24 ≤ 140737488355328 by omega) (show (Zbf ((gl s 1).take i) id).length + 1 ≤ 9223372036854775807 by omega)]
      show (bif decide (gi (rd (gl s 1) i) 3 = id) then _ else _) = _
      cases decide (gi (rd (gl s 1) i) 3 = id) <;> rfl
    · intro m r hI
      subst hI
      rw [List.take_length]
      simp only [Zal, ZX, cond_false]
  refine Eq.trans (congrArg (fun o => Option.bind o _) h) ?_
  rfl
theorem sv_rowlens {s : V} (h : Zam s = true) : ∀ j, j < (gl s 1).length → (gl (rd (gl s 1) j) 0).length ≤ 1000 ∧ (gl (rd (gl s 1) j) 1).length ≤ 1000 := fun j hj => by
  have h1 := keyB_len (rowB_key (sv_row h hj)); have h2 := rowB_val (sv_row h hj); omega
theorem impl_Held_eq {s : V} (hs : Za9 s) (hv : Zam s = true) {id : Int} (hid : 0 ≤ fI (gl s 4) id) : ZcZ (Za s) id = some (Zbf (gl s 1) id) := by
  have hh := sv_head hv
  unfold ZcZ
  simp only [show Za (Za s) = Za s from rfl, ZcT hs, hv, Option.bind_some, Bool.not_true, cond_false, impl_session_eq (show (gl s 4).length ≤ 9223372036854775807 by omega), show decide (fI (gl s 4) id < 0) = false from decide_eq_false (by omega), impl_keys_eq (show (gl s 1).length ≤ 1000 by omega) (fun j hj => (sv_rowlens hv j hj).1)]
theorem impl_Held_no {s : V} (hs : Za9 s) (hv : Zam s = false) (id : Int) : ZcZ (Za s) id = some [] := by
  unfold ZcZ
  simp only [show Za (Za s) = Za s from rfl, ZcT hs, hv, Option.bind_some, Bool.not_false, cond_true]
theorem firstI_at {l : List V} (ha : AscI l) {i : Nat} (hi : i < l.length) : Zs (fun k => decide (gi (rd l k) 0 = gi (rd l i) 0)) 0 l.length = some i := by
  cases hf : Zs (fun k => decide (gi (rd l k) 0 = gi (rd l i) 0)) 0 l.length with
  | none =>
    have h9 : decide (gi (rd l i) 0 = gi (rd l i) 0) = false := firstI_none.1 hf i (Nat.zero_le _) (by omega)
    rw [decide_eq_true rfl] at h9; cases h9
  | some j =>
    obtain ⟨-, h1, h2, h3⟩ := ZaL hf
    have h2 : gi (rd l j) 0 = gi (rd l i) 0 := of_decide_eq_true h2
    rcases Nat.lt_trichotomy j i with c | c | c
    · have := ha.lt _ _ c hi; omega
    · rw [c]
    · have := ha.lt _ _ c (show j < l.length by omega); omega
theorem impl_LastOf_at {s : V} (hs : Za9 s) (hv : Zam s = true) {i : Nat} (hi : i < (gl s 5).length) : ZdN (Za s) (gi (rd (gl s 5) i) 0) = some (Zap (rd (gl s 5) i), true) := by
  have hh := sv_head hv
  unfold ZdN
  simp only [show Za (Za s) = Za s from rfl, show gl (Za s) 5 = gl s 5 from rfl, ZcT hs, hv, Option.bind_some, Bool.not_true, cond_false, ZaT]
  have h := Zch (F := fun m k => Zbt m (gi (rd (gl s 5) i) 0) (gl s 5) (((gl s 5).length : Nat) : Int) k (V.agg [(V.int .i64 0), (V.int .i64 0), (V.int .i64 0), (V.int .i64 0)])) (n := (gl s 5).length) (q := fun k => decide (gi (rd (gl s 5) k) 0 = gi (rd (gl s 5) i) 0)) (out := fun k => some (0, true, Zap (rd (gl s 5) k.toNat))) (no := some (1, false, (V.agg [(V.int .i64 0), (V.int .i64 0), (V.int .i64 0), (V.int .i64 0)]))) ?_ ?_ ((gl s 5).length + 1) 0 (by omega) (by omega)
  · rw [Nat.sub_zero, firstI_at (sv_last_asc hv) hi] at h
    refine Eq.trans (congrArg (fun o => Option.bind o _) (show _ = _ from h)) ?_
    rfl
  · intro m k hk
    simp only [Zbt, Z7 hk, Zo hk, Int.toNat_natCast, cond_true, Z0 hk (show (gl s 5).length ≤ 9223372036854775807 by omega)]
    rfl
  · intro m; simp only [Zbt, ZX, cond_false]; rfl
def let7 (k : List V) (id : Int) : V := V.agg [(V.int .i64 3), (V.int .i64 1000000), (V.int .i64 7), (V.inl Zc k), (V.inl Zc []), (V.int .i64 id)]
theorem let7_ok {k : List V} {id : Int} (hw : LW Zcu k) (hk : keyB k = true) (h : 1 ≤ id ∧ id ≤ 1000000) : impl_CmdOk (Zt (let7 k id)) = some true := by
  have e : impl_OpOk (V.agg [(V.int .i64 7), (V.inl Zc k), (V.inl Zc []), (V.int .i64 id)]) = some true := by
    unfold impl_OpOk
    show (bif ZC id 1 1000000 then Option.bind (Zbj k) fun r317 => bif r317 then some (decide ((((([] : List V)).length : Nat) : Int) = 0)) else some false else some false) = some true
    rw [ZcF, decide_eq_true h, ZdQ hw, hk]; rfl
  unfold impl_CmdOk
  show (bif ZC 3 0 3 then bif ZC 1000000 1 1000000 then Option.bind (impl_OpOk (V.agg [(V.int .i64 7), (V.inl Zc k), (V.inl Zc []), (V.int .i64 id)])) fun r318 => some r318 else some false else some false) = some true
  rw [ZcF, ZcF, e, decide_eq_true (by decide), decide_eq_true (by decide)]; rfl
theorem do7 {x : V} {key : List V} {id : Int} {j : Nat} (hR : (gl x 1).length ≤ 1000) (ha : AscN (fun r => gl r 0) (gl x 1)) (hj : j < (gl x 1).length) (e1 : neq (gl (rd (gl x 1) j) 0) key = true) (e2 : gi (rd (gl x 1) j) 3 = id) :
    Ok (fun r => r.1 = 0 ∧ gl r.2 5 = gl x 5) (Zbm (Za x) (V.agg [(V.int .i64 7), (V.inl Zc key), (V.inl Zc []), (V.int .i64 id)])) := by
  obtain ⟨h1, h2⟩ := lbN_at (nm := fun r => gl r 0) ha hj e1
  unfold Zbm
  refine Ok.bind (Q := fun r => r = ((j : Int), true)) ⟨_, impl_row_eq (s := x) (by omega) ha key, by rw [h1, h2]⟩ ?_
  rintro _ rfl
  refine .iteF rfl (.iteF rfl (.iteF rfl (.iteF rfl (.iteF rfl (.iteF rfl (.iteT rfl (.iteF rfl (.chk (Zo hj) ?_))))))))
  simp only [Int.toNat_natCast, Nat.zero_add]
  refine .iteF ?_ (.chk (Zo hj) (.chk (Zo (by rw [List.length_set]; exact hj)) ⟨_, rfl, rfl, rfl⟩))
  show (!decide (gi (rd (gl x 1) j) 3 = id)) = false
  rw [decide_eq_true e2]; rfl
theorem apply7 {x : V} {key : List V} {id : Int} {j : Nat} (hR : (gl x 1).length ≤ 1000) (ha : AscN (fun r => gl r 0) (gl x 1)) (hj : j < (gl x 1).length) (e1 : neq (gl (rd (gl x 1) j) 0) key = true) (e2 : gi (rd (gl x 1) j) 3 = id)
    (h5 : (gl x 5).length ≤ 1000) (hla : AscI (gl x 5)) (hl : ∀ i, i < (gl x 5).length → 0 ≤ gi (rd (gl x 5) i) 0 ∧ gi (rd (gl x 5) i) 0 ≤ 3 ∧ gi (rd (gl x 5) i) 1 ≤ 1000000 ∧ gi (rd (gl x 5) i) 3 ≤ gi x 0) :
    Ok (fun r => gi r.1 0 = 0 ∨ gi r.1 1 ≤ gi x 0) (ZcL (Za x) (Zt (let7 key id))) := by
  unfold ZcL
  refine .iteF rfl ?_
  refine Ok.bind (Q := fun r => r = (((lbI (gl x 5) 3 : Nat) : Int), hasI (gl x 5) 3)) ⟨_, ?_, rfl⟩ ?_
  · unfold ZdD
    show Option.bind (ZaB (gl x 5) 3) _ = _
    rw [bsI_eq (by omega) hla (fun i hi => ⟨(hl i hi).1, (hl i hi).2.1⟩) ⟨by omega, by omega⟩]; rfl
  rintro _ rfl
  have hdo : Ok (fun r => r.1 = 0 ∧ gl r.2 5 = gl x 5) (Zbm (Za (V.agg [(V.int .i64 (IntKind.i64.wrap ((gi (Za x) 0) + 1))), (V.inl Zg (gl x 1)), (V.inl Zf (gl x 2)), (V.int .i64 (gi x 3)), (V.inl Zd (gl x 4)), (V.inl Ze (gl x 5))])) (V.agg [(V.int .i64 7), (V.inl Zc key), (V.inl Zc []), (V.int .i64 id)])) :=
    do7 (x := V.agg [(V.int .i64 (IntKind.i64.wrap ((gi (Za x) 0) + 1))), (V.inl Zg (gl x 1)), (V.inl Zf (gl x 2)), (V.int .i64 (gi x 3)), (V.inl Zd (gl x 4)), (V.inl Ze (gl x 5))]) hR ha hj e1 e2
  cases hh : hasI (gl x 5) 3 with
  | true =>
    have hlt : lbI (gl x 5) 3 < (gl x 5).length := by
      unfold hasI at hh
      rw [Bool.and_eq_true] at hh
      exact of_decide_eq_true hh.1
    obtain ⟨l0, l1, l2, l3⟩ := hl _ hlt
    refine .iteT rfl (.chk (Zo hlt) ?_)
    refine .ite (fun _ => ?_) (fun _ => .iteT rfl (.chk (Zo hlt) (.iteF ?_ ?_)))
    · refine .chk (Zo hlt) ⟨_, rfl, .inr ?_⟩
      show gi (rd (gl x 5) (0 + (((lbI (gl x 5) 3 : Nat) : Int)).toNat)) 3 ≤ gi x 0
      rw [Int.toNat_natCast, Nat.zero_add]; exact l3
    · refine decide_eq_false ?_
      show ¬ (1000000 : Int) < gi (rd (gl x 5) (0 + (((lbI (gl x 5) 3 : Nat) : Int)).toNat)) 1
      rw [Int.toNat_natCast, Nat.zero_add]; omega
    · refine Ok.bind hdo ?_
      rintro r ⟨r0, r5⟩
      refine .iteT rfl (.chk (by rw [r5]; exact Zo hlt) ⟨_, rfl, .inl r0⟩)
  | false =>
    refine .iteF rfl (.iteF rfl (Ok.bind hdo ?_))
    rintro r ⟨r0, r5⟩
    refine .iteF rfl ?_
    have hle := lbI_le (gl x 5) 3
    have hins : ∀ y : V, ∃ z, insV 32 (gl r.2 5) (((lbI (gl x 5) 3 : Nat) : Int)) [y] = some z := fun y => by
      unfold insV
      rw [r5, decide_eq_true (show (0 : Int) ≤ ((lbI (gl x 5) 3 : Nat) : Int) by omega), decide_eq_true (show ((lbI (gl x 5) 3 : Nat) : Int) ≤ (((gl x 5).length : Nat) : Int) by omega), roomy_of (show ((gl x 5).length + 1) * 32 ≤ 140737488355328 by omega) (show (gl x 5).length + 1 ≤ 9223372036854775807 by omega)]
      exact ⟨_, rfl⟩
    refine Ok.bind (Q := fun _ => True) ?_ (fun _ _ => ⟨_, rfl, .inl r0⟩)
    obtain ⟨z, hz⟩ := hins (lastV 3 1000000 r.1 (IntKind.i64.wrap ((gi x 0) + 1)))
    exact ⟨z, hz, trivial⟩
theorem Apply7 {s : V} (hs : Za9 s) (hv : Zam s = true) {j : Nat} (hj : j < (gl s 1).length) {id : Int} (e2 : gi (rd (gl s 1) j) 3 = id) (hid : 1 ≤ id ∧ id ≤ 1000000) :
    Ok (fun r => gi r.2 0 = 0 ∨ gi r.2 1 ≤ gi s 0) (impl_Apply (Za s) (let7 (gl (rd (gl s 1) j) 0) id)) := by
  have hh := sv_head hv
  unfold impl_Apply
  refine Ok.bind (Q := fun r => r = true) ⟨_, ZcT hs, hv⟩ ?_
  rintro _ rfl
  refine .iteF rfl ?_
  refine Ok.bind (Q := fun r => r = true) ⟨_, let7_ok (hs.2.1.rd hj).1 (rowB_key (sv_row hv hj)) hid, rfl⟩ ?_
  rintro _ rfl
  refine .iteF rfl (.ite (fun _ => ⟨_, rfl, .inl rfl⟩) (fun _ => ?_))
  obtain ⟨R, T, e, hR, hT⟩ := own_O (s := s) (by omega) (by omega) (by omega) (by omega) (sv_rowlens hv) (fun j hj => by have := keyB_len (tombB_key (sv_tomb hv hj)); omega)
  refine Ok.bind (Q := fun r => r = V.agg [(V.int .i64 (gi s 0)), (V.inl Zg R), (V.inl Zf T), (V.int .i64 (gi s 3)), (V.inl Zd (gl s 4)), (V.inl Ze (gl s 5))]) ⟨_, e, rfl⟩ ?_
  rintro _ rfl
  have hRl : R.length = (gl s 1).length := hR.1
  obtain ⟨q1, -, -, q4⟩ := hR.2 j hj
  refine Ok.bind (apply7 (x := V.agg [(V.int .i64 (gi s 0)), (V.inl Zg R), (V.inl Zf T), (V.int .i64 (gi s 3)), (V.inl Zd (gl s 4)), (V.inl Ze (gl s 5))]) (j := j) (key := gl (rd (gl s 1) j) 0) (id := id) (show R.length ≤ 1000 by omega) (hR.asc (rowB_asc (sv_rows hv))) (show j < R.length by omega) (show neq (gl (rd R j) 0) _ = true by rw [q1]; exact neq_refl _) (show gi (rd R j) 3 = id by rw [q4]; exact e2) (show (gl s 5).length ≤ 1000 by omega) (show AscI (gl s 5) from sv_last_asc hv) (fun i hi => ?_)) ?_
  · obtain ⟨a0, a1, -, a3, -, -, -, a7⟩ := sv_last_at hv hi
    exact ⟨a0, a1, a3, a7⟩
  · intro r hr
    exact ⟨_, rfl, hr⟩
end Go.Eng.R
open Go Go.Eng
namespace Go.Eng.R
set_option maxRecDepth 100000
def totH (R S : List V) : Nat → Nat
  | 0 => 0
  | k + 1 => totH R S k + (Zbf R (gi (rd S k) 0)).length
def mulH (S : List V) (h : Int) : Nat → Nat
  | 0 => 0
  | k + 1 => mulH S h k + (bif decide (h = gi (rd S k) 0) then 1 else 0)
theorem totH_nil (S : List V) : ∀ n, totH [] S n = 0
  | 0 => rfl
  | n + 1 => by rw [totH, totH_nil S n]; rfl
theorem totH_cons (r : V) (R S : List V) : ∀ n, totH (r :: R) S n = totH R S n + mulH S (gi r 3) n
  | 0 => rfl
  | n + 1 => by
    rw [totH, totH, mulH, totH_cons r R S n]
    unfold Zbf
    cases hc : decide (gi r 3 = gi (rd S n) 0) with
    | true => rw [List.filter_cons_of_pos (by exact hc), List.length_map, List.length_map, List.length_cons, cond_true]; omega
    | false => rw [List.filter_cons_of_neg (by rw [hc]; exact Bool.false_ne_true), cond_false]; omega
theorem mulH_no {S : List V} {h : Int} : ∀ {n : Nat}, (∀ k, k < n → h ≠ gi (rd S k) 0) → mulH S h n = 0
  | 0, _ => rfl
  | n + 1, hk => by rw [mulH, mulH_no fun k hkn => hk k (by omega), decide_eq_false (hk n (by omega))]; rfl
theorem mulH_one {S : List V} (ha : AscI S) {h : Int} : ∀ {n : Nat}, n ≤ S.length → ∀ k, k < n → h = gi (rd S k) 0 → mulH S h n = 1
  | 0, _, k, hk, _ => by omega
  | n + 1, hn, k, hk, e => by
    rw [mulH]
    rcases Nat.lt_or_ge k n with c | c
    · rw [mulH_one ha (by omega) k c e, decide_eq_false (by have := ha.lt _ _ c (show n < S.length by omega); omega)]; rfl
    · obtain rfl : k = n := by omega
      rw [mulH_no fun k' hk' => by have := ha.lt _ _ hk' (show k < S.length by omega); omega, decide_eq_true e]; rfl
def cntH (l : List V) : Nat := (l.filter fun r => !decide (gi r 3 = 0)).length
theorem totH_eq {S : List V} (ha : AscI S) (h1 : ∀ k, k < S.length → 1 ≤ gi (rd S k) 0) : ∀ {R : List V}, (∀ r ∈ R, gi r 3 = 0 ∨ ∃ k, k < S.length ∧ gi r 3 = gi (rd S k) 0) → totH R S S.length = cntH R
  | [], _ => totH_nil S _
  | r :: R, h => by
    rw [totH_cons, totH_eq ha h1 fun r hr => h r (List.mem_cons_of_mem _ hr)]
    unfold cntH
    rcases h r (List.mem_cons_self ..) with h0 | ⟨k, hk, e⟩
    · rw [mulH_no fun k hk => by have := h1 k hk; omega, List.filter_cons_of_neg (by rw [decide_eq_true h0]; exact Bool.false_ne_true)]; rfl
    · rw [mulH_one ha (Nat.le_refl _) k hk e, List.filter_cons_of_pos (by rw [decide_eq_false (by have := h1 k hk; omega)]; rfl), List.length_cons]
theorem totH_le {R S : List V} {b : Nat} (hb : R.length ≤ b) : ∀ n, totH R S n ≤ b * n
  | 0 => Nat.zero_le _
  | n + 1 => by
    have := totH_le (S := S) hb n
    have h2 := heldL_len R (gi (rd S n) 0)
    rw [totH, Nat.mul_succ]; omega
theorem fI_ex {l : List V} {id : Int} (h : 0 ≤ fI l id) : ∃ k, k < l.length ∧ id = gi (rd l k) 0 := by
  unfold fI at h
  cases hf : Zs (fun i => decide (gi (rd l i) 0 = id)) 0 l.length with
  | none => rw [hf] at h; exact absurd (show (0 : Int) ≤ -1 from h) (by omega)
  | some j =>
    obtain ⟨-, h1, h2, -⟩ := ZaL hf
    have h2 : gi (rd l j) 0 = id := of_decide_eq_true h2
    exact ⟨j, by omega, h2.symm⟩
theorem fI_at {l : List V} {k : Nat} (hk : k < l.length) : 0 ≤ fI l (gi (rd l k) 0) := by
  unfold fI
  cases hf : Zs (fun i => decide (gi (rd l i) 0 = gi (rd l k) 0)) 0 l.length with
  | none =>
    have h9 : decide (gi (rd l k) 0 = gi (rd l k) 0) = false := firstI_none.1 hf k (Nat.zero_le _) (by omega)
    rw [decide_eq_true rfl] at h9; cases h9
  | some j => exact Int.natCast_nonneg j
theorem held_at {l : List V} {id : Int} {k : Nat} (hk : k < (Zbf l id).length) : ∃ j, j < l.length ∧ gi (rd l j) 3 = id ∧ rd (Zbf l id) k = V.inl Zc (gl (rd l j) 0) := by
  have hm : rd (Zbf l id) k ∈ Zbf l id := by rw [rd_eq hk]; exact List.getElem_mem hk
  obtain ⟨r, hr, e⟩ := List.mem_map.1 hm
  rw [List.mem_filter] at hr
  obtain ⟨j, hj, ej⟩ := List.getElem_of_mem hr.1
  refine ⟨j, hj, ?_, ?_⟩
  · rw [rd_eq hj, ej]; exact of_decide_eq_true hr.2
  · rw [rd_eq hj, ej]; exact e.symm
theorem l11_eq {s : V} (hs : Za9 s) (hv : Zam s = true) {j : Nat} (hj : j < (gl s 4).length) (n held : Int) :
    Zaq ((Zbf (gl s 1) (gi (rd (gl s 4) j) 0)).length + 1) n held (j : Int) 0 (Za s) (Zbf (gl s 1) (gi (rd (gl s 4) j) 0)) = some (1, false, n, held, (j : Int), Za s) := by
  have hh := sv_head hv
  have hid := sessB_id (sv_sess hv hj)
  have hl := heldL_len (gl s 1) (gi (rd (gl s 4) j) 0)
  refine skip_loop (F := fun m i => Zaq m n held (j : Int) i (Za s) (Zbf (gl s 1) (gi (rd (gl s 4) j) 0))) ?_ ?_
  · intro m i hi
    obtain ⟨r, hr, e3, e⟩ := held_at hi
    obtain ⟨⟨x, y⟩, ea, hxy⟩ := Apply7 hs hv hr e3 (by omega)
    have hxy : gi y 0 = 0 ∨ gi y 1 ≤ gi s 0 := hxy
    rw [Zaq]
    simp only [Z7 hi, Zo hi, cond_true, Int.toNat_natCast, Nat.zero_add, show gl (Za s) 4 = gl s 4 from rfl, show gi (Za s) 0 = gi s 0 from rfl, Zo hj, e, show Za (Za s) = Za s from rfl, show gl (V.inl Zc (gl (rd (gl s 1) r) 0)) 0 = gl (rd (gl s 1) r) 0 from rfl]
    unfold let7 at ea
    rw [ea, Z0 hi (by omega)]
    simp only [Option.bind_some]
    rcases hxy with h | h
    · rw [decide_eq_true h]; rfl
    · by_cases hlt : gi s 0 < 1000000
      · rw [ZaC (show -9223372036854775808 ≤ gi s 0 + 1 by omega) (by omega), decide_eq_false (show ¬ gi y 1 = gi s 0 + 1 by omega)]
        cases decide (gi y 0 = 0) <;> cases decide (gi s 0 < 1000000) <;> rfl
      · rw [decide_eq_false hlt]
        cases decide (gi y 0 = 0) <;> rfl
  · intro m
    rw [Zaq, ZX]; rfl
theorem l6_eq {s : V} (hs : Za9 s) (hv : Zam s = true) : ZaR ((gl s 4).length + 1) 0 0 0 (Za s) = some (1, false, ((totH (gl s 1) (gl s 4) (gl s 4).length : Nat) : Int), 0, Za s) := by
  have hh := sv_head hv
  refine ZbS (σ := Int) (F := fun m n i => ZaR m n 0 i (Za s)) (n := (gl s 4).length) (fun i n => n = ((totH (gl s 1) (gl s 4) i : Nat) : Int)) (fun o => o = some (1, false, ((totH (gl s 1) (gl s 4) (gl s 4).length : Nat) : Int), 0, Za s)) ?_ ?_ rfl
  · intro m i n hi hI
    subst hI
    refine .inl ⟨_, ?_, rfl⟩
    have hb := totH_le (R := gl s 1) (S := gl s 4) (b := 20) hh.2.2.2.2.1 i
    have hl := heldL_len (gl s 1) (gi (rd (gl s 4) i) 0)
    rw [ZaR]
    simp only [show gl (Za s) 4 = gl s 4 from rfl, show Za (Za s) = Za s from rfl, Z7 hi, Zo hi, cond_true, Int.toNat_natCast, impl_Held_eq hs hv (fI_at hi), Option.bind_some, ZaT, l11_eq hs hv hi, show Nat.beq 1 0 = false from rfl, cond_false, Z0 hi (show (gl s 4).length ≤ 9223372036854775807 by omega)]
    rw [ZaC (show -9223372036854775808 ≤ ((totH (gl s 1) (gl s 4) i : Nat) : Int) + (((Zbf (gl s 1) (gi (rd (gl s 4) i) 0)).length : Nat) : Int) by omega) (by omega), totH, Int.natCast_add (totH (gl s 1) (gl s 4) i)]
  · intro m n hI
    subst hI
    show ZaR (m + 1) _ 0 (((gl s 4).length : Nat) : Int) (Za s) = _
    rw [ZaR, show gl (Za s) 4 = gl s 4 from rfl, ZX]; rfl
theorem cntH_snoc {l : List V} {i : Nat} (h : i < l.length) : cntH (l.take (i + 1)) = cntH (l.take i) + (bif !decide (gi (rd l i) 3 = 0) then 1 else 0) := by
  unfold cntH
  rw [take_snoc h, List.filter_append, List.length_append]
  cases hc : (!decide (gi (rd l i) 3 = 0)) with
  | true => rw [List.filter_cons_of_pos (by exact hc)]; rfl
  | false => rw [List.filter_cons_of_neg (by rw [hc]; exact Bool.false_ne_true)]; rfl
theorem cntH_le (l : List V) : cntH l ≤ l.length := List.length_filter_le _ _
theorem l17_eq {s : V} (hv : Zam s = true) (n : Int) : Zar ((gl s 1).length + 1) n 0 0 (Za s) = some (n, ((cntH (gl s 1) : Nat) : Int), Za s) := by
  have hh := sv_head hv
  refine ZbS (σ := Int) (F := fun m h i => Zar m n h i (Za s)) (n := (gl s 1).length) (fun i h => h = ((cntH ((gl s 1).take i) : Nat) : Int)) (fun o => o = some (n, ((cntH (gl s 1) : Nat) : Int), Za s)) ?_ ?_ rfl
  · intro m i h hi hI
    subst hI
    refine .inl ⟨_, ?_, rfl⟩
    have hb := cntH_le ((gl s 1).take i)
    rw [List.length_take] at hb
    rw [cntH_snoc hi, Zar]
    simp only [show gl (Za s) 1 = gl s 1 from rfl, show Za (Za s) = Za s from rfl, Z7 hi, Zo hi, cond_true, Int.toNat_natCast, Z0 hi (show (gl s 1).length ≤ 9223372036854775807 by omega)]
    cases hc : (!decide (gi (rd (gl s 1) i) 3 = 0)) with
    | true => rw [cond_true, cond_true, ZaC (by omega) (by omega), Int.natCast_add]; rfl
    | false => rfl
  · intro m h hI
    subst hI
    rw [List.take_length]
    show Zar (m + 1) n _ (((gl s 1).length : Nat) : Int) (Za s) = _
    rw [Zar, show gl (Za s) 1 = gl s 1 from rfl, ZX]; rfl
theorem l22_eq {s : V} (hs : Za9 s) (hv : Zam s = true) (n h : Int) : Zas ((gl s 5).length + 1) n h 0 (Za s) = some (1, false, n, h) := by
  have hh := sv_head hv
  refine skip_loop (F := fun m i => Zas m n h i (Za s)) ?_ ?_
  · intro m i hi
    show Zas (m + 1) n h (i : Int) (Za s) = _
    rw [Zas]
    simp only [show gl (Za s) 5 = gl s 5 from rfl, show Za (Za s) = Za s from rfl, Z7 hi, Zo hi, cond_true, Int.toNat_natCast, impl_LastOf_at hs hv hi, Option.bind_some, Bool.not_true, cond_false, Z0 hi (show (gl s 5).length ≤ 9223372036854775807 by omega), show gi (Zap (rd (gl s 5) i)) 0 = gi (rd (gl s 5) i) 0 from rfl, show gi (Zap (rd (gl s 5) i)) 1 = gi (rd (gl s 5) i) 1 from rfl, show gi (Zap (rd (gl s 5) i)) 2 = gi (rd (gl s 5) i) 2 from rfl, show gi (Zap (rd (gl s 5) i)) 3 = gi (rd (gl s 5) i) 3 from rfl, decide_true, Bool.and_self]
  · intro m
    show Zas (m + 1) n h (((gl s 5).length : Nat) : Int) (Za s) = _
    rw [Zas, show gl (Za s) 5 = gl s 5 from rfl, ZX]; rfl
theorem helds_eq {s : V} (hv : Zam s = true) : totH (gl s 1) (gl s 4) (gl s 4).length = cntH (gl s 1) := by
  refine totH_eq (sv_sess_asc hv) (fun k hk => (sessB_id (sv_sess hv hk)).1) fun r hr => ?_
  obtain ⟨j, hj, e⟩ := List.getElem_of_mem hr
  have e : rd (gl s 1) j = r := by rw [rd_eq hj]; exact e
  rw [← e]
  rcases rowB_hold (sv_row hv hj) with h | h
  · exact .inl h
  · exact .inr (fI_ex h)
theorem law_Helds {code : List V} (h : LW Zcu code) : ZcB code = some true := by
  unfold ZcB
  obtain ⟨⟨st, id⟩, e, s, hb, es⟩ := drawHeld_O h
  have es : st = s.v := es
  subst es
  rw [e]
  simp only [Option.bind_some]
  rw [spec_StateOk_eq hb.W]
  simp only [Option.bind_some]
  cases hv : Zam s.v with
  | false =>
    rw [impl_Held_no hb.W hv]
    rfl
  | true =>
    have a1 := l6_eq hb.W hv
    have a2 := l17_eq hv ((totH (gl s.v 1) (gl s.v 4) (gl s.v 4).length : Nat) : Int)
    have a3 := l22_eq hb.W hv ((totH (gl s.v 1) (gl s.v 4) (gl s.v 4).length : Nat) : Int) ((cntH (gl s.v 1) : Nat) : Int)
    simp only [Bool.not_true, cond_false, ZaT, show gl (Za s.v) 4 = gl s.v 4 from rfl, a1, Option.bind_some, show Nat.beq 1 0 = false from rfl, show gl (Za s.v) 1 = gl s.v 1 from rfl, show Za (Za s.v) = Za s.v from rfl, a2, show gl (Za s.v) 5 = gl s.v 5 from rfl, a3]
    rw [helds_eq hv, decide_eq_true rfl]
end Go.Eng.R
open Go Go.Eng
namespace Go.Eng.R
theorem wt_byte {x : V} (h : WtT tab Zc x) : Zcu x := wt_u8 (h.cell 0 rfl)
def readable : List TypeId := [5, 22]
end Go.Eng.R
