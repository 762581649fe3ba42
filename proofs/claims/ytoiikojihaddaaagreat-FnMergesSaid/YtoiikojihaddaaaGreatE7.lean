/- An own evaluator of the program's form, proved sound, and what it says of this law's functions: part 7. -/
import Derived.Test.YtoiikojihaddaaaGreatE6
set_option linter.unusedVariables false

open Go Go.Eng Go.Proofs
namespace Go.Eng.R
noncomputable def c41 : Cfg := cfgOf (P := Tryz.prog) (tab := tab) [] false []
def a41_0 (r_ : List V × Int) : List (Ex × St) := [((Ex.exit 0), (⟨[(0, (V.inl t_byte r_.1)), (3, (vi r_.2))], [], 0, []⟩ : St))]
def s41_0 : SS := ⟨[(0, (.one (.inl t_byte))), (3, (.one (.int .i64))), (4, (.one (.int .i64)))], [], 0, []⟩
noncomputable def l41_0 : LE := le0 3 s41_0 (fun st => spec_l1New_l3 ((((((sv st 0).L).length : Nat) : Int) - ((sv st 2).I)).toNat + 1) ((sv st 0).L) ((sv st 1).I) ((sv st 2).I)) a41_0
noncomputable def L41 : Loops := ⟨fun k => (look [(3, [0, 3, 4])] k).getD [], fun _ => [], fun k => (look [(3, [0, 3])] k).getD [], runL [l41_0], [], fun _ => []⟩
theorem t41_0 (k_ : Nat) : ∀ (code0 : List V) (h3 : Int) (i4 : Int), Agr id (pk0 a41_0) (spec_l1New_l3 k_ code0 h3 i4) (rounds c41 L41 (lpB Tryz.f41 0) k_ (s41_0.mk' (stv [V.inl 0 code0, vi h3, vi i4] []))) := by
  induction k_ with
  | zero => exact fun _ _ _ => g0
  | succ k_ ih => exact fun _ _ _ => gA (g1 (g1 (g1 (ih _ _ _) g0) g4) g4) (by kernel_rfl)
theorem o41 : LoopsOk c41 L41 (bodyOf Tryz.f41) := GoodAll.ok (l := [l41_0]) (.cons 0 (by kernel_rfl) (gd0 (fun st => (((((sv st 0).L).length : Nat) : Int) - ((sv st 2).I)).toNat + 1) (fun st => t41_0 _ _ _ _) fun st => by kernel_rfl) (.nil)) rfl
noncomputable def e41 : En Tryz.prog tab := enP base [] false [] Tryz.func41 (L := L41) o41 [(.one (.inl t_byte))] (fun a => spec_l1New ((rd a 0).L)) (fun r_ : V => ((V.nb t_spec_l1Cur (l0 r_)), [])) [[(.inl t_byte)]] [] [some t_byte] false (by kernel_rfl) fun _ => gA (g2 fun _ => g4) (by kernel_rfl)
noncomputable def e104 : En Tryz.prog tab := enP base [] false [] Tryz.func104 noLo [(.rf t_spec_l1Cur [(.inl t_byte), (.int .i64), (.int .i64)])] (fun a => spec_l1Byte ((rd a 0).unbox)) (fun r_ : Int × V => ((vi r_.1), [(V.rf t_spec_l1Cur (l0 r_.2))])) [] [[(.inl t_byte)]] [none] false (by kernel_rfl) fun _ => gA (g1 (g1 g4 g0) g4) (by kernel_rfl)
set_option maxRecDepth 100000 in
noncomputable def e55 : En Tryz.prog tab := enP base [e104] false [] Tryz.func55 noLo [(.rf t_spec_l1Cur [(.inl t_byte), (.int .i64), (.int .i64)]), (.one (.int .i64))] (fun a => spec_l1Below ((rd a 0).unbox) ((rd a 1).I)) (fun r_ : Int × V => ((vi r_.1), [(V.rf t_spec_l1Cur (l0 r_.2))])) [] [[(.inl t_byte)]] [none, none] false (by kernel_rfl) fun _ => gA (g1 g4 (g1 (g2 fun _ => g1 g4 g0) (g2 fun _ => g2 fun _ => g2 fun _ => g2 fun _ => g1 g4 g0))) (by kernel_rfl)
noncomputable def e129 : En Tryz.prog tab := enT base [] false [] Tryz.func129 noLo [(.one (.int .i64))] (fun a => spec_TableNew ((rd a 0).I)) (fun r_ : V × Bool => ((V.tup [(h1 r_.1), (V.bool r_.2)]), [])) [[.dead, (.rr t_impl_Member true)]] [] [none] false (by kernel_rfl) fun _ => gT (g5 g7 (g5 g7 g7)) (by kernel_rfl)
noncomputable def e93 : En Tryz.prog tab := enP base [e55] false [] Tryz.func93 noLo [(.rf t_spec_l1Cur [(.inl t_byte), (.int .i64), (.int .i64)])] (fun a => spec_l10member ((rd a 0).unbox)) (fun r_ : V × V => ((n_impl_Member r_.1), [(V.rf t_spec_l1Cur (l0 r_.2))])) [] [[(.inl t_byte)]] [none] false (by kernel_rfl) fun _ => gA (g2 fun _ => g2 fun _ => g2 fun _ => g4) (by kernel_rfl)
noncomputable def c45 : Cfg := cfgOf (P := Tryz.prog) (tab := tab) [] false []
def a45_0 (r_ : Nat × Int) : List (Ex × St) := [(Ex.ret, (⟨[(4, (vi r_.2))], [], 0, []⟩ : St)), ((Ex.exit 0), (⟨[(4, V.dead)], [], 0, []⟩ : St))]
def s45_0 : SS := ⟨[(1, (.one (.int .i64))), (2, (.one (.bp 0 0))), (5, (.one (.int .i64)))], [(.box t_impl_Table [(.int .i64), (.inl t_impl_Member)])], 1, []⟩
noncomputable def l45_0 : LE := le1 2 s45_0 (fun st => spec_l10find_l2 (((((gl (bc st 0) 1).length : Nat) : Int) - ((sv st 2).I)).toNat + 1) ((sv st 0).I) ((sv st 2).I) (bc st 0)) a45_0
noncomputable def L45 : Loops := ⟨fun k => (look [(2, [1, 2, 5])] k).getD [], fun _ => [], fun k => (look [(2, [4])] k).getD [], runL [l45_0], [], fun _ => []⟩
theorem t45_0 (k_ : Nat) : ∀ (id1 : Int) (i5 : Int) (b0 : V), Agr id (pk1 a45_0) (spec_l10find_l2 k_ id1 i5 b0) (rounds c45 L45 (lpB Tryz.f45 0) k_ (s45_0.mk' (stv [vi id1, .dead, vi i5] [bx b0]))) := by
  induction k_ with
  | zero => exact fun _ _ _ => g0
  | succ k_ ih => exact fun _ _ _ => gA (g1 (g1 (g1 g4 (ih _ _ _)) g0) g4) (by kernel_rfl)
theorem o45 : LoopsOk c45 L45 (bodyOf Tryz.f45) := GoodAll.ok (l := [l45_0]) (.cons 0 (by kernel_rfl) (gd1 (fun st => ((((gl (bc st 0) 1).length : Nat) : Int) - ((sv st 2).I)).toNat + 1) (fun st => t45_0 _ _ _ _) fun st => by kernel_rfl) (.nil)) rfl
noncomputable def e45 : En Tryz.prog tab := enP base [] false [] Tryz.func45 (L := L45) o45 [(.agg [(.int .i64), (.inl t_impl_Member)]), (.one (.int .i64))] (fun a => spec_l10find (rd a 0) ((rd a 1).I)) (fun r_ : Int => ((vi r_), [])) [] [] [none, none] false (by kernel_rfl) fun _ => gA (g2 fun _ => g1 g4 g4) (by kernel_rfl)
noncomputable def e168 : En Tryz.prog tab := enT base [] false [] Tryz.func168 noLo [(.agg [(.int .i64), (.int .i64), (.int .i64)]), (.agg [(.int .i64), (.int .i64), (.int .i64)])] (fun a => spec_Beats (rd a 0) (rd a 1)) (fun r_ : Bool => ((V.bool r_), [])) [] [] [none, none] false (by kernel_rfl) fun _ => gT (g5 (g5 g7 (g5 g7 g7)) g7) (by kernel_rfl)
noncomputable def c130 : Cfg := cfgOf (P := Tryz.prog) (tab := tab) [e45, e168] false []
def a130_0 (r_ : Int × V × V × List V) : List (Ex × St) := [((Ex.exit 0), (⟨[(0, (V.bp 0 0)), (3, (V.bp 1 0)), (6, (vi r_.1))], [(0, some (Blk.box t_impl_Table [(vi (gi r_.2.1 0)), (vs 2 t_impl_Member)])), (1, some (Blk.box t_impl_Member (l2 r_.2.2.1))), (2, some (Blk.row t_impl_Member true r_.2.2.2))], 3, [0]⟩ : St))]
def s130_0 : SS := ⟨[(0, (.one (.bp 0 0))), (3, (.one (.bp 1 0))), (6, (.one (.int .i64)))], [(.box t_impl_Table [(.int .i64), (.sl 2 t_impl_Member)]), (.box t_impl_Member [(.int .i64), (.int .i64), (.int .i64)]), (.row t_impl_Member true)], 3, [0]⟩
noncomputable def l130_0 : LE := le0 4 s130_0 (fun st => spec_l10say_l4 (((((br st 2).length : Nat) : Int) - ((sv st 2).I)).toNat + 1) ((sv st 2).I) (bc st 0) (bc st 1) (br st 2)) a130_0
noncomputable def L130 : Loops := ⟨fun k => (look [(4, [0, 3, 6])] k).getD [], fun _ => [], fun k => (look [(4, [0, 3, 6])] k).getD [], runL [l130_0], [], fun _ => []⟩
theorem t130_0 (k_ : Nat) : ∀ (k6 : Int) (b0 : V) (b1 : V) (r2 : List V), Agr id (pk0 a130_0) (spec_l10say_l4 k_ k6 b0 b1 r2) (rounds c130 L130 (lpB Tryz.f130 0) k_ (s130_0.mk' (stv [.dead, .dead, vi k6] [bx b0, bx b1, rb r2]))) := by
  induction k_ with
  | zero => exact fun _ _ _ _ => g0
  | succ k_ ih => exact fun _ _ _ _ => gA (g1 (g1 (g1 (ih _ _ _ _) g4) g0) g4) (by kernel_rfl)
theorem o130 : LoopsOk c130 L130 (bodyOf Tryz.f130) := GoodAll.ok (l := [l130_0]) (.cons 0 (by kernel_rfl) (gd0 (fun st => ((((br st 2).length : Nat) : Int) - ((sv st 2).I)).toNat + 1) (fun st => t130_0 _ _ _ _ _) fun st => by kernel_rfl) (.nil)) rfl
set_option maxRecDepth 100000 in
noncomputable def e130 : En Tryz.prog tab := enP base [e45, e168] false [] Tryz.func130 (L := L130) o130 [(.rf t_impl_Table [(.int .i64), (.rr t_impl_Member true)]), (.agg [(.int .i64), (.int .i64), (.int .i64)])] (fun a => spec_l10say ((rd a 0).unbox) (rd a 1)) (fun r_ : Bool × V => ((V.bool r_.1), [(V.rf t_impl_Table (l3 r_.2))])) [] [[.dead, (.rr t_impl_Member true)]] [none, none] false (by kernel_rfl) fun _ => gA (g2 fun _ => g1 (g2 fun _ => g1 (g1 (g1 (g1 (g1 g4 g0) g0) g0) g0) g0) (g1 (g1 g4 (g1 (g1 (g1 (g1 (g1 (g1 g4 g0) (g1 (g1 (g1 (g1 (g1 g4 g0) (g1 g4 g0)) (g1 g4 g0)) g0) (g1 g4 g0))) (g1 (g1 (g1 (g1 (g1 g4 g0) (g1 g4 g0)) (g1 g4 g0)) g0) (g1 g4 g0))) (g1 (g1 (g1 (g1 (g1 g4 g0) (g1 g4 g0)) (g1 g4 g0)) g0) (g1 g4 g0))) g0) (g1 (g1 (g1 (g1 (g1 g4 g0) (g1 g4 g0)) (g1 g4 g0)) g0) (g1 g4 g0)))) g0)) (by kernel_rfl)
noncomputable def e64 : En Tryz.prog tab := enP base [e55] false [] Tryz.func64 noLo [(.rf t_spec_l1Cur [(.inl t_byte), (.int .i64), (.int .i64)]), (.one (.int .i64))] (fun a => spec_l1Once ((rd a 0).unbox) ((rd a 1).I)) (fun r_ : Bool × V => ((V.bool r_.1), [(V.rf t_spec_l1Cur (l0 r_.2))])) [] [[(.inl t_byte)]] [none, none] false (by kernel_rfl) fun _ => gA (g2 fun _ => g4) (by kernel_rfl)
noncomputable def e21 : En Tryz.prog tab := enT base [] false [] Tryz.func21 noLo [(.agg [(.int .i64), (.int .i64), (.int .i64)])] (fun a => spec_MemberOk (rd a 0)) (fun r_ : Bool => ((V.bool r_), [])) [] [] [none] false (by kernel_rfl) fun _ => gT (g5 (g5 (g5 (g5 (g5 g7 g7) g7) g7) g7) g7) (by kernel_rfl)
noncomputable def c11 : Cfg := cfgOf (P := Tryz.prog) (tab := tab) [e21, e45] false []
def a11_0 (r_ : Nat × Bool × V) : List (Ex × St) := [(Ex.ret, (⟨[(1, (V.bp 0 0)), (2, (V.bool r_.2.1))], [(0, some (Blk.box t_impl_Table (l4 r_.2.2)))], 1, []⟩ : St)), ((Ex.exit 0), (⟨[(1, (V.bp 0 0)), (2, V.dead)], [(0, some (Blk.box t_impl_Table (l4 r_.2.2)))], 1, []⟩ : St))]
def s11_0 : SS := ⟨[(1, (.one (.bp 0 0))), (3, (.one (.int .i64)))], [(.box t_impl_Table [(.int .i64), (.inl t_impl_Member)])], 1, []⟩
noncomputable def l11_0 : LE := le1 4 s11_0 (fun st => spec_TableOk_l4 (((((gl (bc st 0) 1).length : Nat) : Int) - ((sv st 1).I)).toNat + 1) ((sv st 1).I) (bc st 0)) a11_0
noncomputable def L11 : Loops := ⟨fun k => (look [(4, [1, 3])] k).getD [], fun _ => [], fun k => (look [(4, [1, 2])] k).getD [], runL [l11_0], [], fun _ => []⟩
set_option maxRecDepth 100000 in
theorem t11_0 (k_ : Nat) : ∀ (i3 : Int) (b0 : V), Agr id (pk1 a11_0) (spec_TableOk_l4 k_ i3 b0) (rounds c11 L11 (lpB Tryz.f11 0) k_ (s11_0.mk' (stv [.dead, vi i3] [bx b0]))) := by
  induction k_ with
  | zero => exact fun _ _ => g0
  | succ k_ ih => exact fun _ _ => gA (g1 (g1 (g1 g4 (g1 (g1 (g1 (g1 g4 (ih _ _)) g0) g0) (ih _ _))) g0) g4) (by kernel_rfl)
theorem o11 : LoopsOk c11 L11 (bodyOf Tryz.f11) := GoodAll.ok (l := [l11_0]) (.cons 0 (by kernel_rfl) (gd1 (fun st => ((((gl (bc st 0) 1).length : Nat) : Int) - ((sv st 1).I)).toNat + 1) (fun st => t11_0 _ _ _) fun st => by kernel_rfl) (.nil)) rfl
set_option maxRecDepth 100000 in
noncomputable def e11 : En Tryz.prog tab := enP base [e21, e45] false [] Tryz.func11 (L := L11) o11 [(.agg [(.int .i64), (.inl t_impl_Member)])] (fun a => spec_TableOk (rd a 0)) (fun r_ : Bool => ((V.bool r_), [])) [] [] [none] false (by kernel_rfl) fun _ => gA (g1 g4 (g2 fun _ => g1 g4 (g2 fun _ => g1 (g1 (g1 g4 (g1 (g1 g4 (g1 g4 g0)) g0)) g0) g4))) (by kernel_rfl)
noncomputable def e169 : En Tryz.prog tab := enP base [] false [] Tryz.func169 noLo [(.agg [(.int .i64), (.inl t_impl_Member)])] (fun a => spec_l10own (rd a 0)) (fun r_ : V => ((h1 r_), [])) [[.dead, (.rr t_impl_Member true)]] [] [none] false (by kernel_rfl) fun _ => gA (g1 g4 g0) (by kernel_rfl)
noncomputable def e131 : En Tryz.prog tab := enP base [e11, e169, e45] false [] Tryz.func131 noLo [(.agg [(.int .i64), (.inl t_impl_Member)])] (fun a => spec_Leave (rd a 0)) (fun r_ : V × Bool => ((V.tup [(h1 r_.1), (V.bool r_.2)]), [])) [[.dead, (.rr t_impl_Member true)]] [] [none] false (by kernel_rfl) fun _ => gA (g2 fun _ => g1 g4 (g2 fun _ => g2 fun _ => g1 (g1 g4 (g1 g4 g0)) g0)) (by kernel_rfl)
noncomputable def c91 : Cfg := cfgOf (P := Tryz.prog) (tab := tab) [e55, e129, e93, e130, e64, e131] false []
def a91_0 (r_ : V × V × V × List V × List V) : List (Ex × St) := [((Ex.exit 0), (⟨[(0, (V.bp 0 0)), (2, (V.bp 1 0)), (3, (V.bp 2 0))], [(0, some (Blk.box t_spec_l1Cur (l0 r_.1))), (1, some (Blk.box t_impl_Table [(vi (gi r_.2.1 0)), (vs 3 t_impl_Member)])), (2, some (Blk.box t_impl_Table [(vi (gi r_.2.2.1 0)), (vs 4 t_impl_Member)])), (3, some (Blk.row t_impl_Member true r_.2.2.2.1)), (4, some (Blk.row t_impl_Member true r_.2.2.2.2))], 5, [0]⟩ : St))]
def s91_0 : SS := ⟨[(0, (.one (.bp 0 0))), (2, (.one (.bp 1 0))), (3, (.one (.bp 2 0))), (5, (.one (.int .i64))), (6, (.one (.int .i64)))], [(.box t_spec_l1Cur [(.inl t_byte), (.int .i64), (.int .i64)]), (.box t_impl_Table [(.int .i64), (.sl 3 t_impl_Member)]), (.box t_impl_Table [(.int .i64), (.sl 4 t_impl_Member)]), (.row t_impl_Member true), (.row t_impl_Member true)], 5, [0]⟩
noncomputable def l91_0 : LE := le0 4 s91_0 (fun st => spec_l10table_l4 ((((sv st 3).I) - ((sv st 4).I)).toNat + 1) ((sv st 3).I) ((sv st 4).I) (bc st 0) (bc st 1) (bc st 2) (br st 3) (br st 4)) a91_0
noncomputable def L91 : Loops := ⟨fun k => (look [(4, [0, 2, 3, 5, 6])] k).getD [], fun k => (look [(4, [⟨2, some 1, true⟩])] k).getD [], fun k => (look [(4, [0, 2, 3])] k).getD [], runL [l91_0], [], fun _ => []⟩
theorem t91_0 (k_ : Nat) : ∀ (n5 : Int) (i6 : Int) (b0 : V) (b1 : V) (b2 : V) (r3 : List V) (r4 : List V), Agr id (pk0 a91_0) (spec_l10table_l4 k_ n5 i6 b0 b1 b2 r3 r4) (rounds c91 L91 (lpB Tryz.f91 0) k_ (s91_0.mk' (stv [.dead, .dead, .dead, vi n5, vi i6] [bx b0, bx b1, bx b2, rb r3, rb r4]))) := by
  induction k_ with
  | zero => exact fun _ _ _ _ _ _ _ => g0
  | succ k_ ih => exact fun _ _ _ _ _ _ _ => gA (g1 (g2 fun _ => g2 fun _ => ih _ _ _ _ _ _ _) g4) (by kernel_rfl)
theorem o91 : LoopsOk c91 L91 (bodyOf Tryz.f91) := GoodAll.ok (l := [l91_0]) (.cons 0 (by kernel_rfl) (gd0 (fun st => (((sv st 3).I) - ((sv st 4).I)).toNat + 1) (fun st => t91_0 _ _ _ _ _ _ _ _) fun st => by kernel_rfl) (.nil)) rfl
noncomputable def e91 : En Tryz.prog tab := enP base [e55, e129, e93, e130, e64, e131] false [] Tryz.func91 (L := L91) o91 [(.rf t_spec_l1Cur [(.inl t_byte), (.int .i64), (.int .i64)])] (fun a => spec_l10table ((rd a 0).unbox)) (fun r_ : V × V => ((h1 r_.1), [(V.rf t_spec_l1Cur (l0 r_.2))])) [[.dead, (.rr t_impl_Member true)]] [[(.inl t_byte)]] [none] false (by kernel_rfl) fun _ => gA (g2 fun _ => g3 fun _ => g2 fun _ => g2 fun _ => g2 fun _ => g1 (g2 fun _ => g4) g4) (by kernel_rfl)
noncomputable def e92 : En Tryz.prog tab := enP base [e55] false [] Tryz.func92 noLo [(.rf t_spec_l1Cur [(.inl t_byte), (.int .i64), (.int .i64)]), (.one (.inl t_int'))] (fun a => spec_l1PickInt ((rd a 0).unbox) ((rd a 1).L)) (fun r_ : Int × V => ((vi r_.1), [(V.rf t_spec_l1Cur (l0 r_.2))])) [] [[(.inl t_byte)]] [none, some t_int'] false (by kernel_rfl) fun _ => gA (g2 fun _ => g1 g4 g0) (by kernel_rfl)
set_option maxRecDepth 100000 in
noncomputable def e42 : En Tryz.prog tab := enP base [e91, e64, e55, e92, e93] false [] Tryz.func42 noLo [(.rf t_spec_l1Cur [(.inl t_byte), (.int .i64), (.int .i64)])] (fun a => spec_l10bent ((rd a 0).unbox)) (fun r_ : V × V => ((n_impl_Table r_.1), [(V.rf t_spec_l1Cur (l0 r_.2))])) [[.dead, (.inl t_impl_Member)]] [[(.inl t_byte)]] [none] false (by kernel_rfl) fun _ => gA (g2 fun _ => g2 fun _ => g1 g4 (g2 fun _ => g1 (g2 fun _ => g4) (g1 (g2 fun _ => g1 g4 g0) (g1 (g2 fun _ => g1 g4 g0) (g1 (g2 fun _ => g1 g4 g0) (g1 g4 g0)))))) (by kernel_rfl)
noncomputable def e9 : En Tryz.prog tab := enP base [e41, e42] false [] Tryz.func9 noLo [(.one (.inl t_byte))] (fun a => spec_DrawMerge ((rd a 0).L)) (fun r_ : V × V => ((V.tup [(n_impl_Table r_.1), (n_impl_Table r_.2)]), [])) [[.dead, (.inl t_impl_Member)], [.dead, (.inl t_impl_Member)]] [] [some t_byte] false (by kernel_rfl) fun _ => gA (g2 fun _ => g2 fun _ => g2 fun _ => g4) (by kernel_rfl)
noncomputable def e80 : En Tryz.prog tab := enT base [] false [] Tryz.func80 noLo [(.one (.int .i64)), (.one (.int .i64)), (.one (.int .i64))] (fun a => impl_within ((rd a 0).I) ((rd a 1).I) ((rd a 2).I)) (fun r_ : Bool => ((V.bool r_), [])) [] [] [none, none, none] false (by kernel_rfl) fun _ => gT (g5 g7 g7) (by kernel_rfl)
noncomputable def e51 : En Tryz.prog tab := enT base [e80] false [] Tryz.func51 noLo [(.agg [(.int .i64), (.int .i64), (.int .i64)])] (fun a => impl_MemberOk (rd a 0)) (fun r_ : Bool => ((V.bool r_), [])) [] [] [none] false (by kernel_rfl) fun _ => gT (g5 (g5 g7 g7) g7) (by kernel_rfl)
noncomputable def e150 : En Tryz.prog tab := enT base [] false [] Tryz.func150 noLo [(.one (.int .i64))] (fun a => cmp_isNaN_int ((rd a 0).I)) (fun r_ : Bool => ((V.bool r_), [])) [] [] [none] false (by kernel_rfl) fun _ => gT g7 (by kernel_rfl)
noncomputable def e103 : En Tryz.prog tab := enT base [e150] false [] Tryz.func103 noLo [(.one (.int .i64)), (.one (.int .i64))] (fun a => cmp_Compare_int ((rd a 0).I) ((rd a 1).I)) (fun r_ : Int => ((vi r_), [])) [] [] [none, none] false (by kernel_rfl) fun _ => gT (g5 (g5 g7 g7) (g5 g7 (g5 g7 (g5 g7 g7)))) (by kernel_rfl)
noncomputable def e102 : En Tryz.prog tab := enT base [e103] false [] Tryz.func102 noLo [(.agg [(.int .i64), (.int .i64), (.int .i64)]), (.one (.int .i64))] (fun a => impl_Table_member_1 (rd a 0) ((rd a 1).I)) (fun r_ : Int => ((vi r_), [])) [] [] [none, none] false (by kernel_rfl) fun _ => gT g7 (by kernel_rfl)
noncomputable def c101 : Cfg := cfgOf (P := Tryz.prog) (tab := tab) [e102] false []
def a101_0 (r_ : List V × Int × Int × Int) : List (Ex × St) := [((Ex.exit 0), (⟨[(0, (V.inl t_impl_Member r_.1)), (1, (vi r_.2.1)), (2, (V.fn 102 [])), (8, (vi r_.2.2.1)), (9, (vi r_.2.2.2))], [], 0, []⟩ : St))]
def s101_0 : SS := ⟨[(0, (.one (.inl t_impl_Member))), (1, (.one (.int .i64))), (2, (.fn 102 [])), (8, (.one (.int .i64))), (9, (.one (.int .i64))), (10, (.one (.int .i64)))], [], 0, []⟩
noncomputable def l101_0 : LE := le0 3 s101_0 (fun st => slices_BinarySearchFunc_int_l3 ((((sv st 5).I) - ((sv st 4).I)).toNat + 1) ((sv st 0).L) ((sv st 1).I) ((sv st 3).I) ((sv st 4).I) ((sv st 5).I)) a101_0
noncomputable def L101 : Loops := ⟨fun k => (look [(3, [0, 1, 2, 8, 9, 10])] k).getD [], fun _ => [], fun k => (look [(3, [0, 1, 2, 8, 9])] k).getD [], runL [l101_0], [], fun _ => []⟩
theorem t101_0 (k_ : Nat) : ∀ (x0 : List V) (target1 : Int) (n8 : Int) (i9 : Int) (j10 : Int), Agr id (pk0 a101_0) (slices_BinarySearchFunc_int_l3 k_ x0 target1 n8 i9 j10) (rounds c101 L101 (lpB Tryz.f101 0) k_ (s101_0.mk' (stv [V.inl 0 x0, vi target1, V.fn 0 [], vi n8, vi i9, vi j10] []))) := by
  induction k_ with
  | zero => exact fun _ _ _ _ _ => g0
  | succ k_ ih => exact fun _ _ _ _ _ => gA (g1 (g1 (g1 (ih _ _ _ _ _) (ih _ _ _ _ _)) g0) g4) (by kernel_rfl)
theorem o101 : LoopsOk c101 L101 (bodyOf Tryz.f101) := GoodAll.ok (l := [l101_0]) (.cons 0 (by kernel_rfl) (gd0 (fun st => (((sv st 5).I) - ((sv st 4).I)).toNat + 1) (fun st => t101_0 _ _ _ _ _ _) fun st => by kernel_rfl) (.nil)) rfl
noncomputable def e101 : En Tryz.prog tab := enP base [e102] false [] Tryz.func101 (L := L101) o101 [(.one (.inl t_impl_Member)), (.one (.int .i64)), (.fn 102 [])] (fun a => slices_BinarySearchFunc_int ((rd a 0).L) ((rd a 1).I)) (fun r_ : Int × Bool => ((V.tup [(vi r_.1), (V.bool r_.2)]), [])) [] [] [some t_impl_Member, none, none] false (by kernel_rfl) fun _ => gA (g2 fun _ => g1 (g1 g4 g0) g4) (by kernel_rfl)
noncomputable def e52 : En Tryz.prog tab := enP base [e101] false [] Tryz.func52 noLo [(.agg [(.int .i64), (.inl t_impl_Member)]), (.one (.int .i64))] (fun a => impl_Table_member (rd a 0) ((rd a 1).I)) (fun r_ : Int × Bool => ((V.tup [(vi r_.1), (V.bool r_.2)]), [])) [] [] [none, none] false (by kernel_rfl) fun _ => gA (g2 fun _ => g4) (by kernel_rfl)
noncomputable def c13 : Cfg := cfgOf (P := Tryz.prog) (tab := tab) [e51, e52] false []
def a13_0 (r_ : Nat × Bool × V) : List (Ex × St) := [(Ex.ret, (⟨[(1, (V.bp 0 0)), (2, (V.bool r_.2.1))], [(0, some (Blk.box t_impl_Table (l4 r_.2.2)))], 1, []⟩ : St)), ((Ex.exit 0), (⟨[(1, (V.bp 0 0)), (2, V.dead)], [(0, some (Blk.box t_impl_Table (l4 r_.2.2)))], 1, []⟩ : St))]
def s13_0 : SS := ⟨[(1, (.one (.bp 0 0))), (12, (.one (.inl t_impl_Member))), (13, (.one (.int .i64))), (14, (.one (.int .i64)))], [(.box t_impl_Table [(.int .i64), (.inl t_impl_Member)])], 1, []⟩
noncomputable def l13_0 : LE := le1 4 s13_0 (fun st => impl_TableOk_l4 ((((sv st 2).I) - ((sv st 3).I)).toNat + 1) ((sv st 1).L) ((sv st 2).I) ((sv st 3).I) (bc st 0)) a13_0
noncomputable def L13 : Loops := ⟨fun k => (look [(4, [1, 12, 13, 14])] k).getD [], fun _ => [], fun k => (look [(4, [1, 2])] k).getD [], runL [l13_0], [], fun _ => []⟩
set_option maxRecDepth 100000 in
theorem t13_0 (k_ : Nat) : ∀ (v12 : List V) (v13 : Int) (v14 : Int) (b0 : V), Agr id (pk1 a13_0) (impl_TableOk_l4 k_ v12 v13 v14 b0) (rounds c13 L13 (lpB Tryz.f13 0) k_ (s13_0.mk' (stv [.dead, V.inl 0 v12, vi v13, vi v14] [bx b0]))) := by
  induction k_ with
  | zero => exact fun _ _ _ _ => g0
  | succ k_ ih => exact fun _ _ _ _ => gA (g1 (g1 (g1 g4 (g1 (g1 (g1 g4 (ih _ _ _ _)) g0) (ih _ _ _ _))) g0) g4) (by kernel_rfl)
theorem o13 : LoopsOk c13 L13 (bodyOf Tryz.f13) := GoodAll.ok (l := [l13_0]) (.cons 0 (by kernel_rfl) (gd1 (fun st => (((sv st 2).I) - ((sv st 3).I)).toNat + 1) (fun st => t13_0 _ _ _ _ _) fun st => by kernel_rfl) (.nil)) rfl
set_option maxRecDepth 100000 in
noncomputable def e13 : En Tryz.prog tab := enP base [e51, e52] false [] Tryz.func13 (L := L13) o13 [(.agg [(.int .i64), (.inl t_impl_Member)])] (fun a => impl_TableOk (rd a 0)) (fun r_ : Bool => ((V.bool r_), [])) [] [] [none] false (by kernel_rfl) fun _ => gA (g1 g4 (g2 fun _ => g1 g4 (g2 fun _ => g1 (g1 (g1 g4 (g1 (g1 g4 (g1 g4 g0)) g0)) g0) g4))) (by kernel_rfl)
noncomputable def e94 : En Tryz.prog tab := enN base [] false [] Tryz.func94 noLo t_impl_Member slices_Clone_Member (fun r_ : List V => ((V.rr t_impl_Member true r_), [])) [[(.rr t_impl_Member true)]] [] [some t_impl_Member] false (by kernel_rfl) (fun _ => gA (g1 g4 g0) (by kernel_rfl)) (by
  have h : evalW (wkF [[(.rr t_impl_Member true)]] []) (cfgOf (P := Tryz.prog) (tab := tab) [] false []) noL Tryz.f94 [V.nl t_impl_Member] = (some (wkF [[(.rr t_impl_Member true)]] [] ((V.nil t_impl_Member), []))) := by kernel_rfl
  rw [h, slices_Clone_Member]
  clear h
  intro r h; revert h; simp only [List.length_nil]; intro h; first | (cases h; kernel_rfl) | (revert h; simp [roomy]; intro h; subst h; kernel_rfl))
noncomputable def e43 : En Tryz.prog tab := enP base [e94] false [] Tryz.func43 noLo [(.agg [(.int .i64), (.inl t_impl_Member)])] (fun a => impl_Table_own (rd a 0)) (fun r_ : V => ((h1 r_), [])) [[.dead, (.rr t_impl_Member true)]] [] [none] false (by kernel_rfl) fun _ => gA (g2 fun _ => g4) (by kernel_rfl)
noncomputable def e109 : En Tryz.prog tab := enIns base Tryz.func109 (by kernel_rfl) t_impl_Member rfl true 24 rfl ins109 [some t_impl_Member, none, some t_impl_Member]
noncomputable def e24 : En Tryz.prog tab := enT base [] false [] Tryz.func24 noLo [(.agg [(.int .i64), (.int .i64), (.int .i64)]), (.agg [(.int .i64), (.int .i64), (.int .i64)])] (fun a => impl_Beats (rd a 0) (rd a 1)) (fun r_ : Bool => ((V.bool r_), [])) [] [] [none, none] false (by kernel_rfl) fun _ => gT (g5 (g5 g7 (g5 g7 g7)) g7) (by kernel_rfl)
set_option maxRecDepth 100000 in
noncomputable def e65 : En Tryz.prog tab := enP base [e52, e109, e24] false [] Tryz.func65 noLo [(.rf t_impl_Table [(.int .i64), (.rr t_impl_Member true)]), (.agg [(.int .i64), (.int .i64), (.int .i64)])] (fun a => impl_Table_hear ((rd a 0).unbox) (rd a 1)) (fun r_ : Bool × V => ((V.bool r_.1), [(V.rf t_impl_Table (l3 r_.2))])) [] [[.dead, (.rr t_impl_Member true)]] [none, none] false (by kernel_rfl) fun _ => gA (g2 fun _ => g1 (g2 fun _ => g4) (g1 (g1 g4 (g1 (g1 (g1 (g1 g4 (g1 (g1 g4 g4) g4)) (g1 (g1 g4 g4) g4)) (g1 (g1 g4 g4) g4)) g4)) g0)) (by kernel_rfl)
noncomputable def c44 : Cfg := cfgOf (P := Tryz.prog) (tab := tab) [e65] false []
def a44_0 (r_ : Bool × V × List V) : List (Ex × St) := [((Ex.exit 0), (⟨[(5, (V.bool r_.1))], [(0, some (Blk.box t_impl_Table [(vi (gi r_.2.1 0)), (vs 1 t_impl_Member)])), (1, some (Blk.row t_impl_Member true r_.2.2))], 2, [0]⟩ : St))]
def s44_0 : SS := ⟨[(0, (.one (.bp 0 0))), (5, (.one .bool)), (9, (.one (.inl t_impl_Member))), (10, (.one (.int .i64))), (11, (.one (.int .i64)))], [(.box t_impl_Table [(.int .i64), (.sl 1 t_impl_Member)]), (.row t_impl_Member true)], 2, [0]⟩
noncomputable def l44_0 : LE := le0 3 s44_0 (fun st => impl_Table_merge_l3 ((((sv st 3).I) - ((sv st 4).I)).toNat + 1) ((sv st 1).B) ((sv st 2).L) ((sv st 3).I) ((sv st 4).I) (bc st 0) (br st 1)) a44_0
noncomputable def L44 : Loops := ⟨fun k => (look [(3, [0, 5, 9, 10, 11])] k).getD [], fun _ => [], fun k => (look [(3, [5])] k).getD [], runL [l44_0], [], fun _ => []⟩
theorem t44_0 (k_ : Nat) : ∀ (changed5 : Bool) (v9 : List V) (v10 : Int) (v11 : Int) (b0 : V) (r1 : List V), Agr id (pk0 a44_0) (impl_Table_merge_l3 k_ changed5 v9 v10 v11 b0 r1) (rounds c44 L44 (lpB Tryz.f44 0) k_ (s44_0.mk' (stv [.dead, V.bool changed5, V.inl 0 v9, vi v10, vi v11] [bx b0, rb r1]))) := by
  induction k_ with
  | zero => exact fun _ _ _ _ _ _ => g0
  | succ k_ ih => exact fun _ _ _ _ _ _ => gA (g1 (g1 (g2 fun _ => g1 (ih _ _ _ _ _ _) (ih _ _ _ _ _ _)) g0) g4) (by kernel_rfl)
theorem o44 : LoopsOk c44 L44 (bodyOf Tryz.f44) := GoodAll.ok (l := [l44_0]) (.cons 0 (by kernel_rfl) (gd0 (fun st => (((sv st 3).I) - ((sv st 4).I)).toNat + 1) (fun st => t44_0 _ _ _ _ _ _ _) fun st => by kernel_rfl) (.nil)) rfl
noncomputable def e44 : En Tryz.prog tab := enP base [e65] false [] Tryz.func44 (L := L44) o44 [(.rf t_impl_Table [(.int .i64), (.rr t_impl_Member true)]), (.agg [(.int .i64), (.inl t_impl_Member)])] (fun a => impl_Table_merge ((rd a 0).unbox) (rd a 1)) (fun r_ : Bool × V => ((V.bool r_.1), [(V.rf t_impl_Table (l3 r_.2))])) [] [[.dead, (.rr t_impl_Member true)]] [none, none] false (by kernel_rfl) fun _ => gA (g2 fun _ => g4) (by kernel_rfl)
noncomputable def e10 : En Tryz.prog tab := enP base [e13, e43, e44] false [] Tryz.func10 noLo [(.agg [(.int .i64), (.inl t_impl_Member)]), (.agg [(.int .i64), (.inl t_impl_Member)])] (fun a => impl_Merge (rd a 0) (rd a 1)) (fun r_ : V × Bool => ((V.tup [(h1 r_.1), (V.bool r_.2)]), [])) [[.dead, (.rr t_impl_Member true)]] [] [none, none] false (by kernel_rfl) fun _ => gA (g2 fun _ => g1 g4 (g2 fun _ => g1 g4 (g2 fun _ => g2 fun _ => g4))) (by kernel_rfl)
noncomputable def e12 : En Tryz.prog tab := enB Tryz.func12 (by kernel_rfl) alive12
noncomputable def c53 : Cfg := cfgOf (P := Tryz.prog) (tab := tab) [] false []
def a53_0 (r_ : List V) : List (Ex × St) := [((Ex.exit 0), (⟨[(3, (vs 0 t_int'))], [(0, some (Blk.row t_int' true r_))], 1, []⟩ : St))]
def s53_0 : SS := ⟨[(3, (.one (.sl 0 t_int'))), (7, (.one (.inl t_impl_Member))), (8, (.one (.int .i64))), (9, (.one (.int .i64)))], [(.row t_int' true)], 1, []⟩
noncomputable def l53_0 : LE := le0 3 s53_0 (fun st => impl_Table_live_l3 ((((sv st 2).I) - ((sv st 3).I)).toNat + 1) ((sv st 1).L) ((sv st 2).I) ((sv st 3).I) (br st 0)) a53_0
noncomputable def L53 : Loops := ⟨fun k => (look [(3, [3, 7, 8, 9])] k).getD [], fun k => (look [(3, [⟨3, none, true⟩])] k).getD [], fun k => (look [(3, [3])] k).getD [], runL [l53_0], [], fun _ => []⟩
set_option maxRecDepth 100000 in
theorem t53_0 (k_ : Nat) : ∀ (v7 : List V) (v8 : Int) (v9 : Int) (r0 : List V), Agr id (pk0 a53_0) (impl_Table_live_l3 k_ v7 v8 v9 r0) (rounds c53 L53 (lpB Tryz.f53 0) k_ (s53_0.mk' (stv [.dead, V.inl 0 v7, vi v8, vi v9] [rb r0]))) := by
  induction k_ with
  | zero => exact fun _ _ _ _ => g0
  | succ k_ ih => exact fun _ _ _ _ => gA (g1 (g1 (g1 (g1 (ih _ _ _ _) g0) (g1 (g1 (ih _ _ _ _) g0) (ih _ _ _ _))) g0) g4) (by kernel_rfl)
theorem o53 : LoopsOk c53 L53 (bodyOf Tryz.f53) := GoodAll.ok (l := [l53_0]) (.cons 0 (by kernel_rfl) (gd0 (fun st => (((sv st 2).I) - ((sv st 3).I)).toNat + 1) (fun st => t53_0 _ _ _ _ _) fun st => by kernel_rfl) (.nil)) rfl
noncomputable def e53 : En Tryz.prog tab := enP base [] false [] Tryz.func53 (L := L53) o53 [(.agg [(.int .i64), (.inl t_impl_Member)])] (fun a => impl_Table_live (rd a 0)) (fun r_ : List V => ((V.rr t_int' true r_), [])) [[(.rr t_int' true)]] [] [none] false (by kernel_rfl) fun _ => gA (g2 fun _ => g4) (by kernel_rfl)
noncomputable def e14 : En Tryz.prog tab := enP base [e13, e53] false [] Tryz.func14 noLo [(.agg [(.int .i64), (.inl t_impl_Member)])] (fun a => impl_Live (rd a 0)) (fun r_ : List V => ((V.rr t_int' true r_), [])) [[(.rr t_int' true)]] [] [none] false (by kernel_rfl) fun _ => gA (g2 fun _ => g1 g4 (g2 fun _ => g4)) (by kernel_rfl)
noncomputable def c3 : Cfg := cfgOf (P := Tryz.prog) (tab := tab) [e9, e10, e11, e12, e13, e14] false []
def a3_0 (r_ : Int × V × List V) : List (Ex × St) := [((Ex.exit 0), (⟨[(5, (V.bp 0 0)), (9, (vi r_.1))], [(0, some (Blk.box t_impl_Table [(vi (gi r_.2.1 0)), (vs 1 t_impl_Member)])), (1, some (Blk.row t_impl_Member true r_.2.2))], 2, []⟩ : St))]
def s3_0 : SS := ⟨[(5, (.one (.bp 0 0))), (9, (.one (.int .i64))), (10, (.one (.int .i64)))], [(.box t_impl_Table [(.int .i64), (.sl 1 t_impl_Member)]), (.row t_impl_Member true)], 2, []⟩
noncomputable def l3_0 : LE := le0 10 s3_0 (fun st => laws_FnMerges_l10 (((((br st 1).length : Nat) : Int) - ((sv st 2).I)).toNat + 1) ((sv st 1).I) ((sv st 2).I) (bc st 0) (br st 1)) a3_0
noncomputable def L3 : Loops := ⟨fun k => (look [(10, [5, 9, 10])] k).getD [], fun _ => [], fun k => (look [(10, [5, 9])] k).getD [], runL [l3_0], [], fun _ => []⟩
theorem t3_0 (k_ : Nat) : ∀ (n9 : Int) (i10 : Int) (b0 : V) (r1 : List V), Agr id (pk0 a3_0) (laws_FnMerges_l10 k_ n9 i10 b0 r1) (rounds c3 L3 (lpB Tryz.f3 0) k_ (s3_0.mk' (stv [.dead, vi n9, vi i10] [bx b0, rb r1]))) := by
  induction k_ with
  | zero => exact fun _ _ _ _ => g0
  | succ k_ ih => exact fun _ _ _ _ => gA (g1 (g1 (g1 (ih _ _ _ _) (ih _ _ _ _)) g0) g4) (by kernel_rfl)
theorem o3 : LoopsOk c3 L3 (bodyOf Tryz.f3) := GoodAll.ok (l := [l3_0]) (.cons 0 (by kernel_rfl) (gd0 (fun st => ((((br st 1).length : Nat) : Int) - ((sv st 2).I)).toNat + 1) (fun st => t3_0 _ _ _ _ _) fun st => by kernel_rfl) (.nil)) rfl
set_option maxRecDepth 100000 in
noncomputable def e3 : En Tryz.prog tab := enP base [e9, e10, e11, e12, e13, e14] false [] Tryz.func3 (L := L3) o3 [(.one (.inl t_byte))] (fun a => laws_FnMerges ((rd a 0).L)) (fun r_ : Bool => ((V.bool r_), [])) [] [] [some t_byte] false (by kernel_rfl) fun _ => gA (g2 fun _ => g2 fun _ => g2 fun _ => g1 (g1 g4 g4) (g2 fun _ => g1 (g1 g4 g4) (g2 fun _ => g1 g4 (g2 fun _ => g1 g4 (g2 fun _ => g2 fun _ => g4))))) (by kernel_rfl)
end Go.Eng.R
open Go Go.Eng
namespace Go.Eng.R
def M_byte (x : V) (k : Int) : Prop := gi x 0 = IntKind.u8.wrap k
def M_int (x : V) (k : Int) : Prop := gi x 0 = k
def M_bool (x : V) (k : Int) : Prop := gb x 0 = decide (k.tmod 3 = 0)
def cnv_byte (x : V) : V := .int .u8 (gi x 0)
def cnv_int (x : V) : V := .int .i64 (gi x 0)
def cnv_bool (x : V) : V := .bool (gb x 0)
theorem cnv_int_W (x : V) (h : W_int x) : W_int (cnv_int x) := h
theorem cnv_int_z (x : V) : z0 (cnv_int x) = z0 x := rfl
theorem cnv_int_c (x : V) : c1 (cnv_int x) = c1 x := rfl
theorem cnv_bool_W (x : V) (h : W_bool x) : W_bool (cnv_bool x) := h
theorem cnv_bool_z (x : V) : z0 (cnv_bool x) = z0 x := rfl
theorem cnv_bool_c (x : V) : c1 (cnv_bool x) = c1 x := rfl
theorem cnv_byte_W (x : V) (h : W_byte x) : W_byte (cnv_byte x) := h
theorem cnv_byte_z (x : V) : z0 (cnv_byte x) = z0 x := rfl
theorem cnv_byte_c (x : V) : c1 (cnv_byte x) = c1 x := rfl
def W_Member (x : V) : Prop := I64 (gi x 0) ∧ I64 (gi x 1) ∧ I64 (gi x 2)
def z_Member (x : V) : Nat := 0
def c_Member (x : V) : Nat := 1 + 1 + 1
def ct_Member (x : V) : Nat := 0
def M_Member (x : V) (k : Int) : Prop := gi x 0 = k ∧ gi x 1 = k + 1 ∧ gi x 2 = k + 1 + 1
def cnv_Member (x : V) : V := V.agg [(V.int .i64 (gi x 0)), (V.int .i64 (gi x 1)), (V.int .i64 (gi x 2))]
theorem cnv_Member_W (x : V) (h : W_Member x) : W_Member (cnv_Member x) := ⟨h.1, h.2.1, h.2.2⟩
theorem cnv_Member_z (x : V) : z_Member (cnv_Member x) = z_Member x := rfl
theorem cnv_Member_c (x : V) : c_Member (cnv_Member x) = c_Member x := rfl
theorem cnv_Member_ct (x : V) : ct_Member (cnv_Member x) = ct_Member x := rfl
theorem c_Member_cz (x : V) : c_Member x ≤ 3 * (1 + z_Member x) := by
  simp only [c_Member, z_Member]; omega
theorem ct_Member_cz (x : V) : ct_Member x ≤ 3 * z_Member x := by
  simp only [ct_Member, z_Member]; omega
def W_Table (x : V) : Prop := I64 (gi x 0) ∧ LW W_Member (gl x 1)
def z_Table (x : V) : Nat := zS z_Member (gl x 1)
def c_Table (x : V) : Nat := 1 + sumL c_Member (gl x 1)
def ct_Table (x : V) : Nat := sumL c_Member (gl x 1)
def M_Table (x : V) (k : Int) : Prop := gi x 0 = k ∧ MS c_Member M_Member (gl x 1) (k + 1)
def cnv_Table (x : V) : V := V.agg [(V.int .i64 (gi x 0)), V.inl t_impl_Member ((gl x 1).map cnv_Member)]
theorem cnv_Table_W (x : V) (h : W_Table x) : W_Table (cnv_Table x) := ⟨h.1, LW.map (h := cnv_Member) cnv_Member_W (h.2)⟩
theorem cnv_Table_z (x : V) : z_Table (cnv_Table x) = z_Table x := by
  simp only [z_Table, show gl (cnv_Table x) 1 = (gl x 1).map cnv_Member from rfl, zS_map (h := cnv_Member) cnv_Member_z (gl x 1)]
theorem cnv_Table_c (x : V) : c_Table (cnv_Table x) = c_Table x := by
  simp only [c_Table, show gl (cnv_Table x) 1 = (gl x 1).map cnv_Member from rfl, sumL_map (h := cnv_Member) cnv_Member_c (gl x 1)]
theorem cnv_Table_ct (x : V) : ct_Table (cnv_Table x) = ct_Table x := by
  simp only [ct_Table, show gl (cnv_Table x) 1 = (gl x 1).map cnv_Member from rfl, sumL_map (h := cnv_Member) cnv_Member_c (gl x 1)]
theorem c_Table_cz (x : V) : c_Table x ≤ 3 * (1 + z_Table x) := by
  have h0 : sumL c_Member (gl x 1) ≤ 3 * zS z_Member (gl x 1) := sumL_mul 3 fun y _ => c_Member_cz y
  simp only [c_Table, z_Table]; omega
theorem ct_Table_cz (x : V) : ct_Table x ≤ 3 * z_Table x := by
  have h0 : sumL c_Member (gl x 1) ≤ 3 * zS z_Member (gl x 1) := sumL_mul 3 fun y _ => c_Member_cz y
  simp only [ct_Table, z_Table]; omega
def W_Item (x : V) : Prop := I64 (gi x 0) ∧ I64 (gi x 1) ∧ I64 (gi x 2) ∧ I64 (gi x 3) ∧ LW W_byte (gl x 4) ∧ LW W_byte (gl x 5) ∧ I64 (gi x 6)
def z_Item (x : V) : Nat := zS z0 (gl x 4) + zS z0 (gl x 5)
def c_Item (x : V) : Nat := 1 + 1 + 1 + 1 + sumL c1 (gl x 4) + sumL c1 (gl x 5) + 1
def ct_Item (x : V) : Nat := sumL c1 (gl x 4) + sumL c1 (gl x 5)
def M_Item (x : V) (k : Int) : Prop := gi x 0 = k ∧ gi x 1 = k + 1 ∧ gi x 2 = k + 1 + 1 ∧ gi x 3 = k + 1 + 1 + 1 ∧ MS c1 M_byte (gl x 4) (k + 1 + 1 + 1 + 1) ∧ MS c1 M_byte (gl x 5) (k + 1 + 1 + 1 + 1 + ((sumL c1 (gl x 4) : Nat) : Int)) ∧ gi x 6 = k + 1 + 1 + 1 + 1 + ((sumL c1 (gl x 4) : Nat) : Int) + ((sumL c1 (gl x 5) : Nat) : Int)
def cnv_Item (x : V) : V := V.agg [(V.int .i64 (gi x 0)), (V.int .i64 (gi x 1)), (V.int .i64 (gi x 2)), (V.int .i64 (gi x 3)), V.inl t_byte ((gl x 4).map cnv_byte), V.inl t_byte ((gl x 5).map cnv_byte), (V.int .i64 (gi x 6))]
theorem cnv_Item_W (x : V) (h : W_Item x) : W_Item (cnv_Item x) := ⟨h.1, h.2.1, h.2.2.1, h.2.2.2.1, LW.map (h := cnv_byte) cnv_byte_W (h.2.2.2.2.1), LW.map (h := cnv_byte) cnv_byte_W (h.2.2.2.2.2.1), h.2.2.2.2.2.2⟩
theorem cnv_Item_z (x : V) : z_Item (cnv_Item x) = z_Item x := by
  simp only [z_Item, show gl (cnv_Item x) 4 = (gl x 4).map cnv_byte from rfl, show gl (cnv_Item x) 5 = (gl x 5).map cnv_byte from rfl, zS_map (h := cnv_byte) cnv_byte_z (gl x 4), zS_map (h := cnv_byte) cnv_byte_z (gl x 5)]
theorem cnv_Item_c (x : V) : c_Item (cnv_Item x) = c_Item x := by
  simp only [c_Item, show gl (cnv_Item x) 4 = (gl x 4).map cnv_byte from rfl, show gl (cnv_Item x) 5 = (gl x 5).map cnv_byte from rfl, sumL_map (h := cnv_byte) cnv_byte_c (gl x 4), sumL_map (h := cnv_byte) cnv_byte_c (gl x 5)]
theorem cnv_Item_ct (x : V) : ct_Item (cnv_Item x) = ct_Item x := by
  simp only [ct_Item, show gl (cnv_Item x) 4 = (gl x 4).map cnv_byte from rfl, show gl (cnv_Item x) 5 = (gl x 5).map cnv_byte from rfl, sumL_map (h := cnv_byte) cnv_byte_c (gl x 4), sumL_map (h := cnv_byte) cnv_byte_c (gl x 5)]
theorem c_Item_cz (x : V) : c_Item x ≤ 5 * (1 + z_Item x) := by
  have h0 : sumL c1 (gl x 4) ≤ 1 * zS z0 (gl x 4) := by rw [sumL_c1, zS_z0]; omega
  have h1 : sumL c1 (gl x 5) ≤ 1 * zS z0 (gl x 5) := by rw [sumL_c1, zS_z0]; omega
  simp only [c_Item, z_Item]; omega
theorem ct_Item_cz (x : V) : ct_Item x ≤ 5 * z_Item x := by
  have h0 : sumL c1 (gl x 4) ≤ 1 * zS z0 (gl x 4) := by rw [sumL_c1, zS_z0]; omega
  have h1 : sumL c1 (gl x 5) ≤ 1 * zS z0 (gl x 5) := by rw [sumL_c1, zS_z0]; omega
  simp only [ct_Item, z_Item]; omega
def W_Node (x : V) : Prop := I64 (gi x 0) ∧ I64 (gi x 1) ∧ I64 (gi x 2) ∧ LW W_Item (gl x 3) ∧ I64 (gi x 4) ∧ I64 (gi x 5) ∧ I64 (gi x 6) ∧ I64 (gi x 7) ∧ LW W_bool (gl x 8) ∧ LW W_int (gl x 9) ∧ LW W_int (gl x 10)
def z_Node (x : V) : Nat := zS z_Item (gl x 3) + zS z0 (gl x 8) + zS z0 (gl x 9) + zS z0 (gl x 10)
def c_Node (x : V) : Nat := 1 + 1 + 1 + sumL c_Item (gl x 3) + 1 + 1 + 1 + 1 + sumL c1 (gl x 8) + sumL c1 (gl x 9) + sumL c1 (gl x 10)
def ct_Node (x : V) : Nat := sumL c_Item (gl x 3) + sumL c1 (gl x 8) + sumL c1 (gl x 9) + sumL c1 (gl x 10)
def M_Node (x : V) (k : Int) : Prop := gi x 0 = k ∧ gi x 1 = k + 1 ∧ gi x 2 = k + 1 + 1 ∧ MS c_Item M_Item (gl x 3) (k + 1 + 1 + 1) ∧ gi x 4 = k + 1 + 1 + 1 + ((sumL c_Item (gl x 3) : Nat) : Int) ∧ gi x 5 = k + 1 + 1 + 1 + ((sumL c_Item (gl x 3) : Nat) : Int) + 1 ∧ gi x 6 = k + 1 + 1 + 1 + ((sumL c_Item (gl x 3) : Nat) : Int) + 1 + 1 ∧ gi x 7 = k + 1 + 1 + 1 + ((sumL c_Item (gl x 3) : Nat) : Int) + 1 + 1 + 1 ∧ MS c1 M_bool (gl x 8) (k + 1 + 1 + 1 + ((sumL c_Item (gl x 3) : Nat) : Int) + 1 + 1 + 1 + 1) ∧ MS c1 M_int (gl x 9) (k + 1 + 1 + 1 + ((sumL c_Item (gl x 3) : Nat) : Int) + 1 + 1 + 1 + 1 + ((sumL c1 (gl x 8) : Nat) : Int)) ∧ MS c1 M_int (gl x 10) (k + 1 + 1 + 1 + ((sumL c_Item (gl x 3) : Nat) : Int) + 1 + 1 + 1 + 1 + ((sumL c1 (gl x 8) : Nat) : Int) + ((sumL c1 (gl x 9) : Nat) : Int))
def cnv_Node (x : V) : V := V.agg [(V.int .i64 (gi x 0)), (V.int .i64 (gi x 1)), (V.int .i64 (gi x 2)), V.inl t_impl_Item ((gl x 3).map cnv_Item), (V.int .i64 (gi x 4)), (V.int .i64 (gi x 5)), (V.int .i64 (gi x 6)), (V.int .i64 (gi x 7)), V.inl t_bool ((gl x 8).map cnv_bool), V.inl t_int' ((gl x 9).map cnv_int), V.inl t_int' ((gl x 10).map cnv_int)]
theorem cnv_Node_W (x : V) (h : W_Node x) : W_Node (cnv_Node x) := ⟨h.1, h.2.1, h.2.2.1, LW.map (h := cnv_Item) cnv_Item_W (h.2.2.2.1), h.2.2.2.2.1, h.2.2.2.2.2.1, h.2.2.2.2.2.2.1, h.2.2.2.2.2.2.2.1, LW.map (h := cnv_bool) cnv_bool_W (h.2.2.2.2.2.2.2.2.1), LW.map (h := cnv_int) cnv_int_W (h.2.2.2.2.2.2.2.2.2.1), LW.map (h := cnv_int) cnv_int_W (h.2.2.2.2.2.2.2.2.2.2)⟩
theorem cnv_Node_z (x : V) : z_Node (cnv_Node x) = z_Node x := by
  simp only [z_Node, show gl (cnv_Node x) 3 = (gl x 3).map cnv_Item from rfl, show gl (cnv_Node x) 8 = (gl x 8).map cnv_bool from rfl, show gl (cnv_Node x) 9 = (gl x 9).map cnv_int from rfl, show gl (cnv_Node x) 10 = (gl x 10).map cnv_int from rfl, zS_map (h := cnv_Item) cnv_Item_z (gl x 3), zS_map (h := cnv_bool) cnv_bool_z (gl x 8), zS_map (h := cnv_int) cnv_int_z (gl x 9), zS_map (h := cnv_int) cnv_int_z (gl x 10)]
theorem cnv_Node_c (x : V) : c_Node (cnv_Node x) = c_Node x := by
  simp only [c_Node, show gl (cnv_Node x) 3 = (gl x 3).map cnv_Item from rfl, show gl (cnv_Node x) 8 = (gl x 8).map cnv_bool from rfl, show gl (cnv_Node x) 9 = (gl x 9).map cnv_int from rfl, show gl (cnv_Node x) 10 = (gl x 10).map cnv_int from rfl, sumL_map (h := cnv_Item) cnv_Item_c (gl x 3), sumL_map (h := cnv_bool) cnv_bool_c (gl x 8), sumL_map (h := cnv_int) cnv_int_c (gl x 9), sumL_map (h := cnv_int) cnv_int_c (gl x 10)]
theorem cnv_Node_ct (x : V) : ct_Node (cnv_Node x) = ct_Node x := by
  simp only [ct_Node, show gl (cnv_Node x) 3 = (gl x 3).map cnv_Item from rfl, show gl (cnv_Node x) 8 = (gl x 8).map cnv_bool from rfl, show gl (cnv_Node x) 9 = (gl x 9).map cnv_int from rfl, show gl (cnv_Node x) 10 = (gl x 10).map cnv_int from rfl, sumL_map (h := cnv_Item) cnv_Item_c (gl x 3), sumL_map (h := cnv_bool) cnv_bool_c (gl x 8), sumL_map (h := cnv_int) cnv_int_c (gl x 9), sumL_map (h := cnv_int) cnv_int_c (gl x 10)]
theorem c_Node_cz (x : V) : c_Node x ≤ 7 * (1 + z_Node x) := by
  have h0 : sumL c_Item (gl x 3) ≤ 5 * zS z_Item (gl x 3) := sumL_mul 5 fun y _ => c_Item_cz y
  have h1 : sumL c1 (gl x 8) ≤ 1 * zS z0 (gl x 8) := by rw [sumL_c1, zS_z0]; omega
  have h2 : sumL c1 (gl x 9) ≤ 1 * zS z0 (gl x 9) := by rw [sumL_c1, zS_z0]; omega
  have h3 : sumL c1 (gl x 10) ≤ 1 * zS z0 (gl x 10) := by rw [sumL_c1, zS_z0]; omega
  simp only [c_Node, z_Node]; omega
theorem ct_Node_cz (x : V) : ct_Node x ≤ 7 * z_Node x := by
  have h0 : sumL c_Item (gl x 3) ≤ 5 * zS z_Item (gl x 3) := sumL_mul 5 fun y _ => c_Item_cz y
  have h1 : sumL c1 (gl x 8) ≤ 1 * zS z0 (gl x 8) := by rw [sumL_c1, zS_z0]; omega
  have h2 : sumL c1 (gl x 9) ≤ 1 * zS z0 (gl x 9) := by rw [sumL_c1, zS_z0]; omega
  have h3 : sumL c1 (gl x 10) ≤ 1 * zS z0 (gl x 10) := by rw [sumL_c1, zS_z0]; omega
  simp only [ct_Node, z_Node]; omega
def W_Msg (x : V) : Prop := I64 (gi x 0) ∧ I64 (gi x 1) ∧ I64 (gi x 2) ∧ I64 (gi x 3) ∧ I64 (gi x 4) ∧ I64 (gi x 5) ∧ LW W_Item (gl x 6) ∧ I64 (gi x 7) ∧ True
def z_Msg (x : V) : Nat := zS z_Item (gl x 6)
def c_Msg (x : V) : Nat := 1 + 1 + 1 + 1 + 1 + 1 + sumL c_Item (gl x 6) + 1 + 1
def ct_Msg (x : V) : Nat := sumL c_Item (gl x 6)
def M_Msg (x : V) (k : Int) : Prop := gi x 0 = k ∧ gi x 1 = k + 1 ∧ gi x 2 = k + 1 + 1 ∧ gi x 3 = k + 1 + 1 + 1 ∧ gi x 4 = k + 1 + 1 + 1 + 1 ∧ gi x 5 = k + 1 + 1 + 1 + 1 + 1 ∧ MS c_Item M_Item (gl x 6) (k + 1 + 1 + 1 + 1 + 1 + 1) ∧ gi x 7 = k + 1 + 1 + 1 + 1 + 1 + 1 + ((sumL c_Item (gl x 6) : Nat) : Int) ∧ gb x 8 = decide ((k + 1 + 1 + 1 + 1 + 1 + 1 + ((sumL c_Item (gl x 6) : Nat) : Int) + 1).tmod 3 = 0)
def cnv_Msg (x : V) : V := V.agg [(V.int .i64 (gi x 0)), (V.int .i64 (gi x 1)), (V.int .i64 (gi x 2)), (V.int .i64 (gi x 3)), (V.int .i64 (gi x 4)), (V.int .i64 (gi x 5)), V.inl t_impl_Item ((gl x 6).map cnv_Item), (V.int .i64 (gi x 7)), (V.bool (gb x 8))]
theorem cnv_Msg_W (x : V) (h : W_Msg x) : W_Msg (cnv_Msg x) := ⟨h.1, h.2.1, h.2.2.1, h.2.2.2.1, h.2.2.2.2.1, h.2.2.2.2.2.1, LW.map (h := cnv_Item) cnv_Item_W (h.2.2.2.2.2.2.1), h.2.2.2.2.2.2.2.1, h.2.2.2.2.2.2.2.2⟩
theorem cnv_Msg_z (x : V) : z_Msg (cnv_Msg x) = z_Msg x := by
  simp only [z_Msg, show gl (cnv_Msg x) 6 = (gl x 6).map cnv_Item from rfl, zS_map (h := cnv_Item) cnv_Item_z (gl x 6)]
theorem cnv_Msg_c (x : V) : c_Msg (cnv_Msg x) = c_Msg x := by
  simp only [c_Msg, show gl (cnv_Msg x) 6 = (gl x 6).map cnv_Item from rfl, sumL_map (h := cnv_Item) cnv_Item_c (gl x 6)]
theorem cnv_Msg_ct (x : V) : ct_Msg (cnv_Msg x) = ct_Msg x := by
  simp only [ct_Msg, show gl (cnv_Msg x) 6 = (gl x 6).map cnv_Item from rfl, sumL_map (h := cnv_Item) cnv_Item_c (gl x 6)]
theorem c_Msg_cz (x : V) : c_Msg x ≤ 8 * (1 + z_Msg x) := by
  have h0 : sumL c_Item (gl x 6) ≤ 5 * zS z_Item (gl x 6) := sumL_mul 5 fun y _ => c_Item_cz y
  simp only [c_Msg, z_Msg]; omega
theorem ct_Msg_cz (x : V) : ct_Msg x ≤ 8 * z_Msg x := by
  have h0 : sumL c_Item (gl x 6) ≤ 5 * zS z_Item (gl x 6) := sumL_mul 5 fun y _ => c_Item_cz y
  simp only [ct_Msg, z_Msg]; omega
def W_Prober (x : V) : Prop := LW W_int (gl x 0) ∧ I64 (gi x 1) ∧ I64 (gi x 2) ∧ I64 (gi x 3) ∧ I64 (gi x 4) ∧ I64 (gi x 5)
def z_Prober (x : V) : Nat := zS z0 (gl x 0)
def c_Prober (x : V) : Nat := sumL c1 (gl x 0) + 1 + 1 + 1 + 1 + 1
def ct_Prober (x : V) : Nat := sumL c1 (gl x 0)
def M_Prober (x : V) (k : Int) : Prop := MS c1 M_int (gl x 0) (k) ∧ gi x 1 = k + ((sumL c1 (gl x 0) : Nat) : Int) ∧ gi x 2 = k + ((sumL c1 (gl x 0) : Nat) : Int) + 1 ∧ gi x 3 = k + ((sumL c1 (gl x 0) : Nat) : Int) + 1 + 1 ∧ gi x 4 = k + ((sumL c1 (gl x 0) : Nat) : Int) + 1 + 1 + 1 ∧ gi x 5 = k + ((sumL c1 (gl x 0) : Nat) : Int) + 1 + 1 + 1 + 1
def cnv_Prober (x : V) : V := V.agg [V.inl t_int' ((gl x 0).map cnv_int), (V.int .i64 (gi x 1)), (V.int .i64 (gi x 2)), (V.int .i64 (gi x 3)), (V.int .i64 (gi x 4)), (V.int .i64 (gi x 5))]
theorem cnv_Prober_W (x : V) (h : W_Prober x) : W_Prober (cnv_Prober x) := ⟨LW.map (h := cnv_int) cnv_int_W (h.1), h.2.1, h.2.2.1, h.2.2.2.1, h.2.2.2.2.1, h.2.2.2.2.2⟩
theorem cnv_Prober_z (x : V) : z_Prober (cnv_Prober x) = z_Prober x := by
  simp only [z_Prober, show gl (cnv_Prober x) 0 = (gl x 0).map cnv_int from rfl, zS_map (h := cnv_int) cnv_int_z (gl x 0)]
theorem cnv_Prober_c (x : V) : c_Prober (cnv_Prober x) = c_Prober x := by
  simp only [c_Prober, show gl (cnv_Prober x) 0 = (gl x 0).map cnv_int from rfl, sumL_map (h := cnv_int) cnv_int_c (gl x 0)]
theorem cnv_Prober_ct (x : V) : ct_Prober (cnv_Prober x) = ct_Prober x := by
  simp only [ct_Prober, show gl (cnv_Prober x) 0 = (gl x 0).map cnv_int from rfl, sumL_map (h := cnv_int) cnv_int_c (gl x 0)]
theorem c_Prober_cz (x : V) : c_Prober x ≤ 5 * (1 + z_Prober x) := by
  have h0 : sumL c1 (gl x 0) ≤ 1 * zS z0 (gl x 0) := by rw [sumL_c1, zS_z0]; omega
  simp only [c_Prober, z_Prober]; omega
theorem ct_Prober_cz (x : V) : ct_Prober x ≤ 5 * z_Prober x := by
  have h0 : sumL c1 (gl x 0) ≤ 1 * zS z0 (gl x 0) := by rw [sumL_c1, zS_z0]; omega
  simp only [ct_Prober, z_Prober]; omega
def W_Op (x : V) : Prop := I64 (gi x 0) ∧ LW W_byte (gl x 1) ∧ LW W_byte (gl x 2) ∧ I64 (gi x 3)
def z_Op (x : V) : Nat := zS z0 (gl x 1) + zS z0 (gl x 2)
def c_Op (x : V) : Nat := 1 + sumL c1 (gl x 1) + sumL c1 (gl x 2) + 1
def ct_Op (x : V) : Nat := sumL c1 (gl x 1) + sumL c1 (gl x 2)
def M_Op (x : V) (k : Int) : Prop := gi x 0 = k ∧ MS c1 M_byte (gl x 1) (k + 1) ∧ MS c1 M_byte (gl x 2) (k + 1 + ((sumL c1 (gl x 1) : Nat) : Int)) ∧ gi x 3 = k + 1 + ((sumL c1 (gl x 1) : Nat) : Int) + ((sumL c1 (gl x 2) : Nat) : Int)
def cnv_Op (x : V) : V := V.agg [(V.int .i64 (gi x 0)), V.inl t_byte ((gl x 1).map cnv_byte), V.inl t_byte ((gl x 2).map cnv_byte), (V.int .i64 (gi x 3))]
theorem cnv_Op_W (x : V) (h : W_Op x) : W_Op (cnv_Op x) := ⟨h.1, LW.map (h := cnv_byte) cnv_byte_W (h.2.1), LW.map (h := cnv_byte) cnv_byte_W (h.2.2.1), h.2.2.2⟩
theorem cnv_Op_z (x : V) : z_Op (cnv_Op x) = z_Op x := by
  simp only [z_Op, show gl (cnv_Op x) 1 = (gl x 1).map cnv_byte from rfl, show gl (cnv_Op x) 2 = (gl x 2).map cnv_byte from rfl, zS_map (h := cnv_byte) cnv_byte_z (gl x 1), zS_map (h := cnv_byte) cnv_byte_z (gl x 2)]
theorem cnv_Op_c (x : V) : c_Op (cnv_Op x) = c_Op x := by
  simp only [c_Op, show gl (cnv_Op x) 1 = (gl x 1).map cnv_byte from rfl, show gl (cnv_Op x) 2 = (gl x 2).map cnv_byte from rfl, sumL_map (h := cnv_byte) cnv_byte_c (gl x 1), sumL_map (h := cnv_byte) cnv_byte_c (gl x 2)]
theorem cnv_Op_ct (x : V) : ct_Op (cnv_Op x) = ct_Op x := by
  simp only [ct_Op, show gl (cnv_Op x) 1 = (gl x 1).map cnv_byte from rfl, show gl (cnv_Op x) 2 = (gl x 2).map cnv_byte from rfl, sumL_map (h := cnv_byte) cnv_byte_c (gl x 1), sumL_map (h := cnv_byte) cnv_byte_c (gl x 2)]
theorem c_Op_cz (x : V) : c_Op x ≤ 2 * (1 + z_Op x) := by
  have h0 : sumL c1 (gl x 1) ≤ 1 * zS z0 (gl x 1) := by rw [sumL_c1, zS_z0]; omega
  have h1 : sumL c1 (gl x 2) ≤ 1 * zS z0 (gl x 2) := by rw [sumL_c1, zS_z0]; omega
  simp only [c_Op, z_Op]; omega
theorem ct_Op_cz (x : V) : ct_Op x ≤ 2 * z_Op x := by
  have h0 : sumL c1 (gl x 1) ≤ 1 * zS z0 (gl x 1) := by rw [sumL_c1, zS_z0]; omega
  have h1 : sumL c1 (gl x 2) ≤ 1 * zS z0 (gl x 2) := by rw [sumL_c1, zS_z0]; omega
  simp only [ct_Op, z_Op]; omega
def W_Action (x : V) : Prop := I64 (gi x 0) ∧ I64 (gi x 1) ∧ I64 (gi x 2) ∧ I64 (gi x 3) ∧ LW W_byte (gl x 4) ∧ LW W_byte (gl x 5) ∧ I64 (gi x 6) ∧ LW W_byte (gl x 7)
def z_Action (x : V) : Nat := zS z0 (gl x 4) + zS z0 (gl x 5) + zS z0 (gl x 7)
def c_Action (x : V) : Nat := 1 + 1 + 1 + 1 + sumL c1 (gl x 4) + sumL c1 (gl x 5) + 1 + sumL c1 (gl x 7)
def ct_Action (x : V) : Nat := sumL c1 (gl x 4) + sumL c1 (gl x 5) + sumL c1 (gl x 7)
def M_Action (x : V) (k : Int) : Prop := gi x 0 = k ∧ gi x 1 = k + 1 ∧ gi x 2 = k + 1 + 1 ∧ gi x 3 = k + 1 + 1 + 1 ∧ MS c1 M_byte (gl x 4) (k + 1 + 1 + 1 + 1) ∧ MS c1 M_byte (gl x 5) (k + 1 + 1 + 1 + 1 + ((sumL c1 (gl x 4) : Nat) : Int)) ∧ gi x 6 = k + 1 + 1 + 1 + 1 + ((sumL c1 (gl x 4) : Nat) : Int) + ((sumL c1 (gl x 5) : Nat) : Int) ∧ MS c1 M_byte (gl x 7) (k + 1 + 1 + 1 + 1 + ((sumL c1 (gl x 4) : Nat) : Int) + ((sumL c1 (gl x 5) : Nat) : Int) + 1)
def cnv_Action (x : V) : V := V.agg [(V.int .i64 (gi x 0)), (V.int .i64 (gi x 1)), (V.int .i64 (gi x 2)), (V.int .i64 (gi x 3)), V.inl t_byte ((gl x 4).map cnv_byte), V.inl t_byte ((gl x 5).map cnv_byte), (V.int .i64 (gi x 6)), V.inl t_byte ((gl x 7).map cnv_byte)]
theorem cnv_Action_W (x : V) (h : W_Action x) : W_Action (cnv_Action x) := ⟨h.1, h.2.1, h.2.2.1, h.2.2.2.1, LW.map (h := cnv_byte) cnv_byte_W (h.2.2.2.2.1), LW.map (h := cnv_byte) cnv_byte_W (h.2.2.2.2.2.1), h.2.2.2.2.2.2.1, LW.map (h := cnv_byte) cnv_byte_W (h.2.2.2.2.2.2.2)⟩
theorem cnv_Action_z (x : V) : z_Action (cnv_Action x) = z_Action x := by
  simp only [z_Action, show gl (cnv_Action x) 4 = (gl x 4).map cnv_byte from rfl, show gl (cnv_Action x) 5 = (gl x 5).map cnv_byte from rfl, show gl (cnv_Action x) 7 = (gl x 7).map cnv_byte from rfl, zS_map (h := cnv_byte) cnv_byte_z (gl x 4), zS_map (h := cnv_byte) cnv_byte_z (gl x 5), zS_map (h := cnv_byte) cnv_byte_z (gl x 7)]
theorem cnv_Action_c (x : V) : c_Action (cnv_Action x) = c_Action x := by
  simp only [c_Action, show gl (cnv_Action x) 4 = (gl x 4).map cnv_byte from rfl, show gl (cnv_Action x) 5 = (gl x 5).map cnv_byte from rfl, show gl (cnv_Action x) 7 = (gl x 7).map cnv_byte from rfl, sumL_map (h := cnv_byte) cnv_byte_c (gl x 4), sumL_map (h := cnv_byte) cnv_byte_c (gl x 5), sumL_map (h := cnv_byte) cnv_byte_c (gl x 7)]
theorem cnv_Action_ct (x : V) : ct_Action (cnv_Action x) = ct_Action x := by
  simp only [ct_Action, show gl (cnv_Action x) 4 = (gl x 4).map cnv_byte from rfl, show gl (cnv_Action x) 5 = (gl x 5).map cnv_byte from rfl, show gl (cnv_Action x) 7 = (gl x 7).map cnv_byte from rfl, sumL_map (h := cnv_byte) cnv_byte_c (gl x 4), sumL_map (h := cnv_byte) cnv_byte_c (gl x 5), sumL_map (h := cnv_byte) cnv_byte_c (gl x 7)]
theorem c_Action_cz (x : V) : c_Action x ≤ 5 * (1 + z_Action x) := by
  have h0 : sumL c1 (gl x 4) ≤ 1 * zS z0 (gl x 4) := by rw [sumL_c1, zS_z0]; omega
  have h1 : sumL c1 (gl x 5) ≤ 1 * zS z0 (gl x 5) := by rw [sumL_c1, zS_z0]; omega
  have h2 : sumL c1 (gl x 7) ≤ 1 * zS z0 (gl x 7) := by rw [sumL_c1, zS_z0]; omega
  simp only [c_Action, z_Action]; omega
theorem ct_Action_cz (x : V) : ct_Action x ≤ 5 * z_Action x := by
  have h0 : sumL c1 (gl x 4) ≤ 1 * zS z0 (gl x 4) := by rw [sumL_c1, zS_z0]; omega
  have h1 : sumL c1 (gl x 5) ≤ 1 * zS z0 (gl x 5) := by rw [sumL_c1, zS_z0]; omega
  have h2 : sumL c1 (gl x 7) ≤ 1 * zS z0 (gl x 7) := by rw [sumL_c1, zS_z0]; omega
  simp only [ct_Action, z_Action]; omega
def W_Fact (x : V) : Prop := I64 (gi x 0) ∧ I64 (gi x 1) ∧ I64 (gi x 2) ∧ I64 (gi x 3) ∧ LW W_byte (gl x 4) ∧ LW W_byte (gl x 5) ∧ I64 (gi x 6)
def z_Fact (x : V) : Nat := zS z0 (gl x 4) + zS z0 (gl x 5)
def c_Fact (x : V) : Nat := 1 + 1 + 1 + 1 + sumL c1 (gl x 4) + sumL c1 (gl x 5) + 1
def ct_Fact (x : V) : Nat := sumL c1 (gl x 4) + sumL c1 (gl x 5)
def M_Fact (x : V) (k : Int) : Prop := gi x 0 = k ∧ gi x 1 = k + 1 ∧ gi x 2 = k + 1 + 1 ∧ gi x 3 = k + 1 + 1 + 1 ∧ MS c1 M_byte (gl x 4) (k + 1 + 1 + 1 + 1) ∧ MS c1 M_byte (gl x 5) (k + 1 + 1 + 1 + 1 + ((sumL c1 (gl x 4) : Nat) : Int)) ∧ gi x 6 = k + 1 + 1 + 1 + 1 + ((sumL c1 (gl x 4) : Nat) : Int) + ((sumL c1 (gl x 5) : Nat) : Int)
def cnv_Fact (x : V) : V := V.agg [(V.int .i64 (gi x 0)), (V.int .i64 (gi x 1)), (V.int .i64 (gi x 2)), (V.int .i64 (gi x 3)), V.inl t_byte ((gl x 4).map cnv_byte), V.inl t_byte ((gl x 5).map cnv_byte), (V.int .i64 (gi x 6))]
theorem cnv_Fact_W (x : V) (h : W_Fact x) : W_Fact (cnv_Fact x) := ⟨h.1, h.2.1, h.2.2.1, h.2.2.2.1, LW.map (h := cnv_byte) cnv_byte_W (h.2.2.2.2.1), LW.map (h := cnv_byte) cnv_byte_W (h.2.2.2.2.2.1), h.2.2.2.2.2.2⟩
theorem cnv_Fact_z (x : V) : z_Fact (cnv_Fact x) = z_Fact x := by
  simp only [z_Fact, show gl (cnv_Fact x) 4 = (gl x 4).map cnv_byte from rfl, show gl (cnv_Fact x) 5 = (gl x 5).map cnv_byte from rfl, zS_map (h := cnv_byte) cnv_byte_z (gl x 4), zS_map (h := cnv_byte) cnv_byte_z (gl x 5)]
theorem cnv_Fact_c (x : V) : c_Fact (cnv_Fact x) = c_Fact x := by
  simp only [c_Fact, show gl (cnv_Fact x) 4 = (gl x 4).map cnv_byte from rfl, show gl (cnv_Fact x) 5 = (gl x 5).map cnv_byte from rfl, sumL_map (h := cnv_byte) cnv_byte_c (gl x 4), sumL_map (h := cnv_byte) cnv_byte_c (gl x 5)]
theorem cnv_Fact_ct (x : V) : ct_Fact (cnv_Fact x) = ct_Fact x := by
  simp only [ct_Fact, show gl (cnv_Fact x) 4 = (gl x 4).map cnv_byte from rfl, show gl (cnv_Fact x) 5 = (gl x 5).map cnv_byte from rfl, sumL_map (h := cnv_byte) cnv_byte_c (gl x 4), sumL_map (h := cnv_byte) cnv_byte_c (gl x 5)]
theorem c_Fact_cz (x : V) : c_Fact x ≤ 5 * (1 + z_Fact x) := by
  have h0 : sumL c1 (gl x 4) ≤ 1 * zS z0 (gl x 4) := by rw [sumL_c1, zS_z0]; omega
  have h1 : sumL c1 (gl x 5) ≤ 1 * zS z0 (gl x 5) := by rw [sumL_c1, zS_z0]; omega
  simp only [c_Fact, z_Fact]; omega
theorem ct_Fact_cz (x : V) : ct_Fact x ≤ 5 * z_Fact x := by
  have h0 : sumL c1 (gl x 4) ≤ 1 * zS z0 (gl x 4) := by rw [sumL_c1, zS_z0]; omega
  have h1 : sumL c1 (gl x 5) ≤ 1 * zS z0 (gl x 5) := by rw [sumL_c1, zS_z0]; omega
  simp only [ct_Fact, z_Fact]; omega
def W_Call (x : V) : Prop := I64 (gi x 0) ∧ I64 (gi x 1) ∧ I64 (gi x 2) ∧ LW W_byte (gl x 3) ∧ LW W_byte (gl x 4) ∧ I64 (gi x 5) ∧ I64 (gi x 6) ∧ I64 (gi x 7) ∧ I64 (gi x 8) ∧ I64 (gi x 9)
def z_Call (x : V) : Nat := zS z0 (gl x 3) + zS z0 (gl x 4)
def c_Call (x : V) : Nat := 1 + 1 + 1 + sumL c1 (gl x 3) + sumL c1 (gl x 4) + 1 + 1 + 1 + 1 + 1
def ct_Call (x : V) : Nat := sumL c1 (gl x 3) + sumL c1 (gl x 4)
def M_Call (x : V) (k : Int) : Prop := gi x 0 = k ∧ gi x 1 = k + 1 ∧ gi x 2 = k + 1 + 1 ∧ MS c1 M_byte (gl x 3) (k + 1 + 1 + 1) ∧ MS c1 M_byte (gl x 4) (k + 1 + 1 + 1 + ((sumL c1 (gl x 3) : Nat) : Int)) ∧ gi x 5 = k + 1 + 1 + 1 + ((sumL c1 (gl x 3) : Nat) : Int) + ((sumL c1 (gl x 4) : Nat) : Int) ∧ gi x 6 = k + 1 + 1 + 1 + ((sumL c1 (gl x 3) : Nat) : Int) + ((sumL c1 (gl x 4) : Nat) : Int) + 1 ∧ gi x 7 = k + 1 + 1 + 1 + ((sumL c1 (gl x 3) : Nat) : Int) + ((sumL c1 (gl x 4) : Nat) : Int) + 1 + 1 ∧ gi x 8 = k + 1 + 1 + 1 + ((sumL c1 (gl x 3) : Nat) : Int) + ((sumL c1 (gl x 4) : Nat) : Int) + 1 + 1 + 1 ∧ gi x 9 = k + 1 + 1 + 1 + ((sumL c1 (gl x 3) : Nat) : Int) + ((sumL c1 (gl x 4) : Nat) : Int) + 1 + 1 + 1 + 1
def cnv_Call (x : V) : V := V.agg [(V.int .i64 (gi x 0)), (V.int .i64 (gi x 1)), (V.int .i64 (gi x 2)), V.inl t_byte ((gl x 3).map cnv_byte), V.inl t_byte ((gl x 4).map cnv_byte), (V.int .i64 (gi x 5)), (V.int .i64 (gi x 6)), (V.int .i64 (gi x 7)), (V.int .i64 (gi x 8)), (V.int .i64 (gi x 9))]
theorem cnv_Call_W (x : V) (h : W_Call x) : W_Call (cnv_Call x) := ⟨h.1, h.2.1, h.2.2.1, LW.map (h := cnv_byte) cnv_byte_W (h.2.2.2.1), LW.map (h := cnv_byte) cnv_byte_W (h.2.2.2.2.1), h.2.2.2.2.2.1, h.2.2.2.2.2.2.1, h.2.2.2.2.2.2.2.1, h.2.2.2.2.2.2.2.2.1, h.2.2.2.2.2.2.2.2.2⟩
theorem cnv_Call_z (x : V) : z_Call (cnv_Call x) = z_Call x := by
  simp only [z_Call, show gl (cnv_Call x) 3 = (gl x 3).map cnv_byte from rfl, show gl (cnv_Call x) 4 = (gl x 4).map cnv_byte from rfl, zS_map (h := cnv_byte) cnv_byte_z (gl x 3), zS_map (h := cnv_byte) cnv_byte_z (gl x 4)]
theorem cnv_Call_c (x : V) : c_Call (cnv_Call x) = c_Call x := by
  simp only [c_Call, show gl (cnv_Call x) 3 = (gl x 3).map cnv_byte from rfl, show gl (cnv_Call x) 4 = (gl x 4).map cnv_byte from rfl, sumL_map (h := cnv_byte) cnv_byte_c (gl x 3), sumL_map (h := cnv_byte) cnv_byte_c (gl x 4)]
theorem cnv_Call_ct (x : V) : ct_Call (cnv_Call x) = ct_Call x := by
  simp only [ct_Call, show gl (cnv_Call x) 3 = (gl x 3).map cnv_byte from rfl, show gl (cnv_Call x) 4 = (gl x 4).map cnv_byte from rfl, sumL_map (h := cnv_byte) cnv_byte_c (gl x 3), sumL_map (h := cnv_byte) cnv_byte_c (gl x 4)]
theorem c_Call_cz (x : V) : c_Call x ≤ 8 * (1 + z_Call x) := by
  have h0 : sumL c1 (gl x 3) ≤ 1 * zS z0 (gl x 3) := by rw [sumL_c1, zS_z0]; omega
  have h1 : sumL c1 (gl x 4) ≤ 1 * zS z0 (gl x 4) := by rw [sumL_c1, zS_z0]; omega
  simp only [c_Call, z_Call]; omega
theorem ct_Call_cz (x : V) : ct_Call x ≤ 8 * z_Call x := by
  have h0 : sumL c1 (gl x 3) ≤ 1 * zS z0 (gl x 3) := by rw [sumL_c1, zS_z0]; omega
  have h1 : sumL c1 (gl x 4) ≤ 1 * zS z0 (gl x 4) := by rw [sumL_c1, zS_z0]; omega
  simp only [ct_Call, z_Call]; omega
def W_Note (x : V) : Prop := I64 (gi x 0) ∧ I64 (gi x 1) ∧ LW W_byte (gl x 2) ∧ I64 (gi x 3) ∧ I64 (gi x 4) ∧ I64 (gi x 5) ∧ True ∧ LW W_byte (gl x 7)
def z_Note (x : V) : Nat := zS z0 (gl x 2) + zS z0 (gl x 7)
def c_Note (x : V) : Nat := 1 + 1 + sumL c1 (gl x 2) + 1 + 1 + 1 + 1 + sumL c1 (gl x 7)
def ct_Note (x : V) : Nat := sumL c1 (gl x 2) + sumL c1 (gl x 7)
def M_Note (x : V) (k : Int) : Prop := gi x 0 = k ∧ gi x 1 = k + 1 ∧ MS c1 M_byte (gl x 2) (k + 1 + 1) ∧ gi x 3 = k + 1 + 1 + ((sumL c1 (gl x 2) : Nat) : Int) ∧ gi x 4 = k + 1 + 1 + ((sumL c1 (gl x 2) : Nat) : Int) + 1 ∧ gi x 5 = k + 1 + 1 + ((sumL c1 (gl x 2) : Nat) : Int) + 1 + 1 ∧ gb x 6 = decide ((k + 1 + 1 + ((sumL c1 (gl x 2) : Nat) : Int) + 1 + 1 + 1).tmod 3 = 0) ∧ MS c1 M_byte (gl x 7) (k + 1 + 1 + ((sumL c1 (gl x 2) : Nat) : Int) + 1 + 1 + 1 + 1)
def cnv_Note (x : V) : V := V.agg [(V.int .i64 (gi x 0)), (V.int .i64 (gi x 1)), V.inl t_byte ((gl x 2).map cnv_byte), (V.int .i64 (gi x 3)), (V.int .i64 (gi x 4)), (V.int .i64 (gi x 5)), (V.bool (gb x 6)), V.inl t_byte ((gl x 7).map cnv_byte)]
theorem cnv_Note_W (x : V) (h : W_Note x) : W_Note (cnv_Note x) := ⟨h.1, h.2.1, LW.map (h := cnv_byte) cnv_byte_W (h.2.2.1), h.2.2.2.1, h.2.2.2.2.1, h.2.2.2.2.2.1, h.2.2.2.2.2.2.1, LW.map (h := cnv_byte) cnv_byte_W (h.2.2.2.2.2.2.2)⟩
theorem cnv_Note_z (x : V) : z_Note (cnv_Note x) = z_Note x := by
  simp only [z_Note, show gl (cnv_Note x) 2 = (gl x 2).map cnv_byte from rfl, show gl (cnv_Note x) 7 = (gl x 7).map cnv_byte from rfl, zS_map (h := cnv_byte) cnv_byte_z (gl x 2), zS_map (h := cnv_byte) cnv_byte_z (gl x 7)]
theorem cnv_Note_c (x : V) : c_Note (cnv_Note x) = c_Note x := by
  simp only [c_Note, show gl (cnv_Note x) 2 = (gl x 2).map cnv_byte from rfl, show gl (cnv_Note x) 7 = (gl x 7).map cnv_byte from rfl, sumL_map (h := cnv_byte) cnv_byte_c (gl x 2), sumL_map (h := cnv_byte) cnv_byte_c (gl x 7)]
theorem cnv_Note_ct (x : V) : ct_Note (cnv_Note x) = ct_Note x := by
  simp only [ct_Note, show gl (cnv_Note x) 2 = (gl x 2).map cnv_byte from rfl, show gl (cnv_Note x) 7 = (gl x 7).map cnv_byte from rfl, sumL_map (h := cnv_byte) cnv_byte_c (gl x 2), sumL_map (h := cnv_byte) cnv_byte_c (gl x 7)]
theorem c_Note_cz (x : V) : c_Note x ≤ 6 * (1 + z_Note x) := by
  have h0 : sumL c1 (gl x 2) ≤ 1 * zS z0 (gl x 2) := by rw [sumL_c1, zS_z0]; omega
  have h1 : sumL c1 (gl x 7) ≤ 1 * zS z0 (gl x 7) := by rw [sumL_c1, zS_z0]; omega
  simp only [c_Note, z_Note]; omega
theorem ct_Note_cz (x : V) : ct_Note x ≤ 6 * z_Note x := by
  have h0 : sumL c1 (gl x 2) ≤ 1 * zS z0 (gl x 2) := by rw [sumL_c1, zS_z0]; omega
  have h1 : sumL c1 (gl x 7) ≤ 1 * zS z0 (gl x 7) := by rw [sumL_c1, zS_z0]; omega
  simp only [ct_Note, z_Note]; omega
def W_Row (x : V) : Prop := LW W_byte (gl x 0) ∧ LW W_byte (gl x 1) ∧ I64 (gi x 2) ∧ I64 (gi x 3)
def z_Row (x : V) : Nat := zS z0 (gl x 0) + zS z0 (gl x 1)
def c_Row (x : V) : Nat := sumL c1 (gl x 0) + sumL c1 (gl x 1) + 1 + 1
def ct_Row (x : V) : Nat := sumL c1 (gl x 0) + sumL c1 (gl x 1)
def M_Row (x : V) (k : Int) : Prop := MS c1 M_byte (gl x 0) (k) ∧ MS c1 M_byte (gl x 1) (k + ((sumL c1 (gl x 0) : Nat) : Int)) ∧ gi x 2 = k + ((sumL c1 (gl x 0) : Nat) : Int) + ((sumL c1 (gl x 1) : Nat) : Int) ∧ gi x 3 = k + ((sumL c1 (gl x 0) : Nat) : Int) + ((sumL c1 (gl x 1) : Nat) : Int) + 1
def cnv_Row (x : V) : V := V.agg [V.inl t_byte ((gl x 0).map cnv_byte), V.inl t_byte ((gl x 1).map cnv_byte), (V.int .i64 (gi x 2)), (V.int .i64 (gi x 3))]
theorem cnv_Row_W (x : V) (h : W_Row x) : W_Row (cnv_Row x) := ⟨LW.map (h := cnv_byte) cnv_byte_W (h.1), LW.map (h := cnv_byte) cnv_byte_W (h.2.1), h.2.2.1, h.2.2.2⟩
theorem cnv_Row_z (x : V) : z_Row (cnv_Row x) = z_Row x := by
  simp only [z_Row, show gl (cnv_Row x) 0 = (gl x 0).map cnv_byte from rfl, show gl (cnv_Row x) 1 = (gl x 1).map cnv_byte from rfl, zS_map (h := cnv_byte) cnv_byte_z (gl x 0), zS_map (h := cnv_byte) cnv_byte_z (gl x 1)]
theorem cnv_Row_c (x : V) : c_Row (cnv_Row x) = c_Row x := by
  simp only [c_Row, show gl (cnv_Row x) 0 = (gl x 0).map cnv_byte from rfl, show gl (cnv_Row x) 1 = (gl x 1).map cnv_byte from rfl, sumL_map (h := cnv_byte) cnv_byte_c (gl x 0), sumL_map (h := cnv_byte) cnv_byte_c (gl x 1)]
theorem cnv_Row_ct (x : V) : ct_Row (cnv_Row x) = ct_Row x := by
  simp only [ct_Row, show gl (cnv_Row x) 0 = (gl x 0).map cnv_byte from rfl, show gl (cnv_Row x) 1 = (gl x 1).map cnv_byte from rfl, sumL_map (h := cnv_byte) cnv_byte_c (gl x 0), sumL_map (h := cnv_byte) cnv_byte_c (gl x 1)]
theorem c_Row_cz (x : V) : c_Row x ≤ 2 * (1 + z_Row x) := by
  have h0 : sumL c1 (gl x 0) ≤ 1 * zS z0 (gl x 0) := by rw [sumL_c1, zS_z0]; omega
  have h1 : sumL c1 (gl x 1) ≤ 1 * zS z0 (gl x 1) := by rw [sumL_c1, zS_z0]; omega
  simp only [c_Row, z_Row]; omega
theorem ct_Row_cz (x : V) : ct_Row x ≤ 2 * z_Row x := by
  have h0 : sumL c1 (gl x 0) ≤ 1 * zS z0 (gl x 0) := by rw [sumL_c1, zS_z0]; omega
  have h1 : sumL c1 (gl x 1) ≤ 1 * zS z0 (gl x 1) := by rw [sumL_c1, zS_z0]; omega
  simp only [ct_Row, z_Row]; omega
def W_Tomb (x : V) : Prop := LW W_byte (gl x 0) ∧ I64 (gi x 1)
def z_Tomb (x : V) : Nat := zS z0 (gl x 0)
def c_Tomb (x : V) : Nat := sumL c1 (gl x 0) + 1
def ct_Tomb (x : V) : Nat := sumL c1 (gl x 0)
def M_Tomb (x : V) (k : Int) : Prop := MS c1 M_byte (gl x 0) (k) ∧ gi x 1 = k + ((sumL c1 (gl x 0) : Nat) : Int)
def cnv_Tomb (x : V) : V := V.agg [V.inl t_byte ((gl x 0).map cnv_byte), (V.int .i64 (gi x 1))]
theorem cnv_Tomb_W (x : V) (h : W_Tomb x) : W_Tomb (cnv_Tomb x) := ⟨LW.map (h := cnv_byte) cnv_byte_W (h.1), h.2⟩
theorem cnv_Tomb_z (x : V) : z_Tomb (cnv_Tomb x) = z_Tomb x := by
  simp only [z_Tomb, show gl (cnv_Tomb x) 0 = (gl x 0).map cnv_byte from rfl, zS_map (h := cnv_byte) cnv_byte_z (gl x 0)]
theorem cnv_Tomb_c (x : V) : c_Tomb (cnv_Tomb x) = c_Tomb x := by
  simp only [c_Tomb, show gl (cnv_Tomb x) 0 = (gl x 0).map cnv_byte from rfl, sumL_map (h := cnv_byte) cnv_byte_c (gl x 0)]
theorem cnv_Tomb_ct (x : V) : ct_Tomb (cnv_Tomb x) = ct_Tomb x := by
  simp only [ct_Tomb, show gl (cnv_Tomb x) 0 = (gl x 0).map cnv_byte from rfl, sumL_map (h := cnv_byte) cnv_byte_c (gl x 0)]
theorem c_Tomb_cz (x : V) : c_Tomb x ≤ 1 * (1 + z_Tomb x) := by
  have h0 : sumL c1 (gl x 0) ≤ 1 * zS z0 (gl x 0) := by rw [sumL_c1, zS_z0]; omega
  simp only [c_Tomb, z_Tomb]; omega
theorem ct_Tomb_cz (x : V) : ct_Tomb x ≤ 1 * z_Tomb x := by
  have h0 : sumL c1 (gl x 0) ≤ 1 * zS z0 (gl x 0) := by rw [sumL_c1, zS_z0]; omega
  simp only [ct_Tomb, z_Tomb]; omega
def W_Session (x : V) : Prop := I64 (gi x 0) ∧ True
def z_Session (x : V) : Nat := 0
def c_Session (x : V) : Nat := 1 + 1
def ct_Session (x : V) : Nat := 0
def M_Session (x : V) (k : Int) : Prop := gi x 0 = k ∧ gb x 1 = decide ((k + 1).tmod 3 = 0)
def cnv_Session (x : V) : V := V.agg [(V.int .i64 (gi x 0)), (V.bool (gb x 1))]
theorem cnv_Session_W (x : V) (h : W_Session x) : W_Session (cnv_Session x) := ⟨h.1, h.2⟩
theorem cnv_Session_z (x : V) : z_Session (cnv_Session x) = z_Session x := rfl
theorem cnv_Session_c (x : V) : c_Session (cnv_Session x) = c_Session x := rfl
theorem cnv_Session_ct (x : V) : ct_Session (cnv_Session x) = ct_Session x := rfl
theorem c_Session_cz (x : V) : c_Session x ≤ 2 * (1 + z_Session x) := by
  simp only [c_Session, z_Session]; omega
theorem ct_Session_cz (x : V) : ct_Session x ≤ 2 * z_Session x := by
  simp only [ct_Session, z_Session]; omega
def W_Last (x : V) : Prop := I64 (gi x 0) ∧ I64 (gi x 1) ∧ I64 (gi x 2) ∧ I64 (gi x 3)
def z_Last (x : V) : Nat := 0
def c_Last (x : V) : Nat := 1 + 1 + 1 + 1
def ct_Last (x : V) : Nat := 0
def M_Last (x : V) (k : Int) : Prop := gi x 0 = k ∧ gi x 1 = k + 1 ∧ gi x 2 = k + 1 + 1 ∧ gi x 3 = k + 1 + 1 + 1
def cnv_Last (x : V) : V := V.agg [(V.int .i64 (gi x 0)), (V.int .i64 (gi x 1)), (V.int .i64 (gi x 2)), (V.int .i64 (gi x 3))]
theorem cnv_Last_W (x : V) (h : W_Last x) : W_Last (cnv_Last x) := ⟨h.1, h.2.1, h.2.2.1, h.2.2.2⟩
theorem cnv_Last_z (x : V) : z_Last (cnv_Last x) = z_Last x := rfl
theorem cnv_Last_c (x : V) : c_Last (cnv_Last x) = c_Last x := rfl
theorem cnv_Last_ct (x : V) : ct_Last (cnv_Last x) = ct_Last x := rfl
theorem c_Last_cz (x : V) : c_Last x ≤ 4 * (1 + z_Last x) := by
  simp only [c_Last, z_Last]; omega
theorem ct_Last_cz (x : V) : ct_Last x ≤ 4 * z_Last x := by
  simp only [ct_Last, z_Last]; omega
def W_State (x : V) : Prop := I64 (gi x 0) ∧ LW W_Row (gl x 1) ∧ LW W_Tomb (gl x 2) ∧ I64 (gi x 3) ∧ LW W_Session (gl x 4) ∧ LW W_Last (gl x 5)
def z_State (x : V) : Nat := zS z_Row (gl x 1) + zS z_Tomb (gl x 2) + zS z_Session (gl x 4) + zS z_Last (gl x 5)
def c_State (x : V) : Nat := 1 + sumL c_Row (gl x 1) + sumL c_Tomb (gl x 2) + 1 + sumL c_Session (gl x 4) + sumL c_Last (gl x 5)
def ct_State (x : V) : Nat := sumL c_Row (gl x 1) + sumL c_Tomb (gl x 2) + sumL c_Session (gl x 4) + sumL c_Last (gl x 5)
def M_State (x : V) (k : Int) : Prop := gi x 0 = k ∧ MS c_Row M_Row (gl x 1) (k + 1) ∧ MS c_Tomb M_Tomb (gl x 2) (k + 1 + ((sumL c_Row (gl x 1) : Nat) : Int)) ∧ gi x 3 = k + 1 + ((sumL c_Row (gl x 1) : Nat) : Int) + ((sumL c_Tomb (gl x 2) : Nat) : Int) ∧ MS c_Session M_Session (gl x 4) (k + 1 + ((sumL c_Row (gl x 1) : Nat) : Int) + ((sumL c_Tomb (gl x 2) : Nat) : Int) + 1) ∧ MS c_Last M_Last (gl x 5) (k + 1 + ((sumL c_Row (gl x 1) : Nat) : Int) + ((sumL c_Tomb (gl x 2) : Nat) : Int) + 1 + ((sumL c_Session (gl x 4) : Nat) : Int))
def cnv_State (x : V) : V := V.agg [(V.int .i64 (gi x 0)), V.inl t_impl_Row ((gl x 1).map cnv_Row), V.inl t_impl_Tomb ((gl x 2).map cnv_Tomb), (V.int .i64 (gi x 3)), V.inl t_impl_Session ((gl x 4).map cnv_Session), V.inl t_impl_Last ((gl x 5).map cnv_Last)]
theorem cnv_State_W (x : V) (h : W_State x) : W_State (cnv_State x) := ⟨h.1, LW.map (h := cnv_Row) cnv_Row_W (h.2.1), LW.map (h := cnv_Tomb) cnv_Tomb_W (h.2.2.1), h.2.2.2.1, LW.map (h := cnv_Session) cnv_Session_W (h.2.2.2.2.1), LW.map (h := cnv_Last) cnv_Last_W (h.2.2.2.2.2)⟩
theorem cnv_State_z (x : V) : z_State (cnv_State x) = z_State x := by
  simp only [z_State, show gl (cnv_State x) 1 = (gl x 1).map cnv_Row from rfl, show gl (cnv_State x) 2 = (gl x 2).map cnv_Tomb from rfl, show gl (cnv_State x) 4 = (gl x 4).map cnv_Session from rfl, show gl (cnv_State x) 5 = (gl x 5).map cnv_Last from rfl, zS_map (h := cnv_Row) cnv_Row_z (gl x 1), zS_map (h := cnv_Tomb) cnv_Tomb_z (gl x 2), zS_map (h := cnv_Session) cnv_Session_z (gl x 4), zS_map (h := cnv_Last) cnv_Last_z (gl x 5)]
theorem cnv_State_c (x : V) : c_State (cnv_State x) = c_State x := by
  simp only [c_State, show gl (cnv_State x) 1 = (gl x 1).map cnv_Row from rfl, show gl (cnv_State x) 2 = (gl x 2).map cnv_Tomb from rfl, show gl (cnv_State x) 4 = (gl x 4).map cnv_Session from rfl, show gl (cnv_State x) 5 = (gl x 5).map cnv_Last from rfl, sumL_map (h := cnv_Row) cnv_Row_c (gl x 1), sumL_map (h := cnv_Tomb) cnv_Tomb_c (gl x 2), sumL_map (h := cnv_Session) cnv_Session_c (gl x 4), sumL_map (h := cnv_Last) cnv_Last_c (gl x 5)]
theorem cnv_State_ct (x : V) : ct_State (cnv_State x) = ct_State x := by
  simp only [ct_State, show gl (cnv_State x) 1 = (gl x 1).map cnv_Row from rfl, show gl (cnv_State x) 2 = (gl x 2).map cnv_Tomb from rfl, show gl (cnv_State x) 4 = (gl x 4).map cnv_Session from rfl, show gl (cnv_State x) 5 = (gl x 5).map cnv_Last from rfl, sumL_map (h := cnv_Row) cnv_Row_c (gl x 1), sumL_map (h := cnv_Tomb) cnv_Tomb_c (gl x 2), sumL_map (h := cnv_Session) cnv_Session_c (gl x 4), sumL_map (h := cnv_Last) cnv_Last_c (gl x 5)]
theorem c_State_cz (x : V) : c_State x ≤ 4 * (1 + z_State x) := by
  have h0 : sumL c_Row (gl x 1) ≤ 2 * zS z_Row (gl x 1) := sumL_mul 2 fun y _ => c_Row_cz y
  have h1 : sumL c_Tomb (gl x 2) ≤ 1 * zS z_Tomb (gl x 2) := sumL_mul 1 fun y _ => c_Tomb_cz y
  have h2 : sumL c_Session (gl x 4) ≤ 2 * zS z_Session (gl x 4) := sumL_mul 2 fun y _ => c_Session_cz y
  have h3 : sumL c_Last (gl x 5) ≤ 4 * zS z_Last (gl x 5) := sumL_mul 4 fun y _ => c_Last_cz y
  simp only [c_State, z_State]; omega
theorem ct_State_cz (x : V) : ct_State x ≤ 4 * z_State x := by
  have h0 : sumL c_Row (gl x 1) ≤ 2 * zS z_Row (gl x 1) := sumL_mul 2 fun y _ => c_Row_cz y
  have h1 : sumL c_Tomb (gl x 2) ≤ 1 * zS z_Tomb (gl x 2) := sumL_mul 1 fun y _ => c_Tomb_cz y
  have h2 : sumL c_Session (gl x 4) ≤ 2 * zS z_Session (gl x 4) := sumL_mul 2 fun y _ => c_Session_cz y
  have h3 : sumL c_Last (gl x 5) ≤ 4 * zS z_Last (gl x 5) := sumL_mul 4 fun y _ => c_Last_cz y
  simp only [ct_State, z_State]; omega
def W_Result (x : V) : Prop := True ∧ True ∧ LW W_Fact (gl x 2) ∧ LW W_Call (gl x 3) ∧ LW W_Note (gl x 4) ∧ LW W_Note (gl x 5) ∧ LW W_Node (gl x 6) ∧ LW W_State (gl x 7) ∧ LW W_bool (gl x 8) ∧ I64 (gi x 9) ∧ I64 (gi x 10)
def z_Result (x : V) : Nat := zS z_Fact (gl x 2) + zS z_Call (gl x 3) + zS z_Note (gl x 4) + zS z_Note (gl x 5) + zS z_Node (gl x 6) + zS z_State (gl x 7) + zS z0 (gl x 8)
def c_Result (x : V) : Nat := 1 + 1 + sumL c_Fact (gl x 2) + sumL c_Call (gl x 3) + sumL c_Note (gl x 4) + sumL c_Note (gl x 5) + sumL c_Node (gl x 6) + sumL c_State (gl x 7) + sumL c1 (gl x 8) + 1 + 1
def ct_Result (x : V) : Nat := sumL c_Fact (gl x 2) + sumL c_Call (gl x 3) + sumL c_Note (gl x 4) + sumL c_Note (gl x 5) + sumL c_Node (gl x 6) + sumL c_State (gl x 7) + sumL c1 (gl x 8)
def M_Result (x : V) (k : Int) : Prop := gb x 0 = decide ((k).tmod 3 = 0) ∧ gb x 1 = decide ((k + 1).tmod 3 = 0) ∧ MS c_Fact M_Fact (gl x 2) (k + 1 + 1) ∧ MS c_Call M_Call (gl x 3) (k + 1 + 1 + ((sumL c_Fact (gl x 2) : Nat) : Int)) ∧ MS c_Note M_Note (gl x 4) (k + 1 + 1 + ((sumL c_Fact (gl x 2) : Nat) : Int) + ((sumL c_Call (gl x 3) : Nat) : Int)) ∧ MS c_Note M_Note (gl x 5) (k + 1 + 1 + ((sumL c_Fact (gl x 2) : Nat) : Int) + ((sumL c_Call (gl x 3) : Nat) : Int) + ((sumL c_Note (gl x 4) : Nat) : Int)) ∧ MS c_Node M_Node (gl x 6) (k + 1 + 1 + ((sumL c_Fact (gl x 2) : Nat) : Int) + ((sumL c_Call (gl x 3) : Nat) : Int) + ((sumL c_Note (gl x 4) : Nat) : Int) + ((sumL c_Note (gl x 5) : Nat) : Int)) ∧ MS c_State M_State (gl x 7) (k + 1 + 1 + ((sumL c_Fact (gl x 2) : Nat) : Int) + ((sumL c_Call (gl x 3) : Nat) : Int) + ((sumL c_Note (gl x 4) : Nat) : Int) + ((sumL c_Note (gl x 5) : Nat) : Int) + ((sumL c_Node (gl x 6) : Nat) : Int)) ∧ MS c1 M_bool (gl x 8) (k + 1 + 1 + ((sumL c_Fact (gl x 2) : Nat) : Int) + ((sumL c_Call (gl x 3) : Nat) : Int) + ((sumL c_Note (gl x 4) : Nat) : Int) + ((sumL c_Note (gl x 5) : Nat) : Int) + ((sumL c_Node (gl x 6) : Nat) : Int) + ((sumL c_State (gl x 7) : Nat) : Int)) ∧ gi x 9 = k + 1 + 1 + ((sumL c_Fact (gl x 2) : Nat) : Int) + ((sumL c_Call (gl x 3) : Nat) : Int) + ((sumL c_Note (gl x 4) : Nat) : Int) + ((sumL c_Note (gl x 5) : Nat) : Int) + ((sumL c_Node (gl x 6) : Nat) : Int) + ((sumL c_State (gl x 7) : Nat) : Int) + ((sumL c1 (gl x 8) : Nat) : Int) ∧ gi x 10 = k + 1 + 1 + ((sumL c_Fact (gl x 2) : Nat) : Int) + ((sumL c_Call (gl x 3) : Nat) : Int) + ((sumL c_Note (gl x 4) : Nat) : Int) + ((sumL c_Note (gl x 5) : Nat) : Int) + ((sumL c_Node (gl x 6) : Nat) : Int) + ((sumL c_State (gl x 7) : Nat) : Int) + ((sumL c1 (gl x 8) : Nat) : Int) + 1
def cnv_Result (x : V) : V := V.agg [(V.bool (gb x 0)), (V.bool (gb x 1)), V.inl t_impl_Fact ((gl x 2).map cnv_Fact), V.inl t_impl_Call ((gl x 3).map cnv_Call), V.inl t_impl_Note ((gl x 4).map cnv_Note), V.inl t_impl_Note ((gl x 5).map cnv_Note), V.inl t_impl_Node ((gl x 6).map cnv_Node), V.inl t_impl_State ((gl x 7).map cnv_State), V.inl t_bool ((gl x 8).map cnv_bool), (V.int .i64 (gi x 9)), (V.int .i64 (gi x 10))]
theorem cnv_Result_W (x : V) (h : W_Result x) : W_Result (cnv_Result x) := ⟨h.1, h.2.1, LW.map (h := cnv_Fact) cnv_Fact_W (h.2.2.1), LW.map (h := cnv_Call) cnv_Call_W (h.2.2.2.1), LW.map (h := cnv_Note) cnv_Note_W (h.2.2.2.2.1), LW.map (h := cnv_Note) cnv_Note_W (h.2.2.2.2.2.1), LW.map (h := cnv_Node) cnv_Node_W (h.2.2.2.2.2.2.1), LW.map (h := cnv_State) cnv_State_W (h.2.2.2.2.2.2.2.1), LW.map (h := cnv_bool) cnv_bool_W (h.2.2.2.2.2.2.2.2.1), h.2.2.2.2.2.2.2.2.2.1, h.2.2.2.2.2.2.2.2.2.2⟩
theorem cnv_Result_z (x : V) : z_Result (cnv_Result x) = z_Result x := by
  simp only [z_Result, show gl (cnv_Result x) 2 = (gl x 2).map cnv_Fact from rfl, show gl (cnv_Result x) 3 = (gl x 3).map cnv_Call from rfl, show gl (cnv_Result x) 4 = (gl x 4).map cnv_Note from rfl, show gl (cnv_Result x) 5 = (gl x 5).map cnv_Note from rfl, show gl (cnv_Result x) 6 = (gl x 6).map cnv_Node from rfl, show gl (cnv_Result x) 7 = (gl x 7).map cnv_State from rfl, show gl (cnv_Result x) 8 = (gl x 8).map cnv_bool from rfl, zS_map (h := cnv_Fact) cnv_Fact_z (gl x 2), zS_map (h := cnv_Call) cnv_Call_z (gl x 3), zS_map (h := cnv_Note) cnv_Note_z (gl x 4), zS_map (h := cnv_Note) cnv_Note_z (gl x 5), zS_map (h := cnv_Node) cnv_Node_z (gl x 6), zS_map (h := cnv_State) cnv_State_z (gl x 7), zS_map (h := cnv_bool) cnv_bool_z (gl x 8)]
theorem cnv_Result_c (x : V) : c_Result (cnv_Result x) = c_Result x := by
  simp only [c_Result, show gl (cnv_Result x) 2 = (gl x 2).map cnv_Fact from rfl, show gl (cnv_Result x) 3 = (gl x 3).map cnv_Call from rfl, show gl (cnv_Result x) 4 = (gl x 4).map cnv_Note from rfl, show gl (cnv_Result x) 5 = (gl x 5).map cnv_Note from rfl, show gl (cnv_Result x) 6 = (gl x 6).map cnv_Node from rfl, show gl (cnv_Result x) 7 = (gl x 7).map cnv_State from rfl, show gl (cnv_Result x) 8 = (gl x 8).map cnv_bool from rfl, sumL_map (h := cnv_Fact) cnv_Fact_c (gl x 2), sumL_map (h := cnv_Call) cnv_Call_c (gl x 3), sumL_map (h := cnv_Note) cnv_Note_c (gl x 4), sumL_map (h := cnv_Note) cnv_Note_c (gl x 5), sumL_map (h := cnv_Node) cnv_Node_c (gl x 6), sumL_map (h := cnv_State) cnv_State_c (gl x 7), sumL_map (h := cnv_bool) cnv_bool_c (gl x 8)]
theorem cnv_Result_ct (x : V) : ct_Result (cnv_Result x) = ct_Result x := by
  simp only [ct_Result, show gl (cnv_Result x) 2 = (gl x 2).map cnv_Fact from rfl, show gl (cnv_Result x) 3 = (gl x 3).map cnv_Call from rfl, show gl (cnv_Result x) 4 = (gl x 4).map cnv_Note from rfl, show gl (cnv_Result x) 5 = (gl x 5).map cnv_Note from rfl, show gl (cnv_Result x) 6 = (gl x 6).map cnv_Node from rfl, show gl (cnv_Result x) 7 = (gl x 7).map cnv_State from rfl, show gl (cnv_Result x) 8 = (gl x 8).map cnv_bool from rfl, sumL_map (h := cnv_Fact) cnv_Fact_c (gl x 2), sumL_map (h := cnv_Call) cnv_Call_c (gl x 3), sumL_map (h := cnv_Note) cnv_Note_c (gl x 4), sumL_map (h := cnv_Note) cnv_Note_c (gl x 5), sumL_map (h := cnv_Node) cnv_Node_c (gl x 6), sumL_map (h := cnv_State) cnv_State_c (gl x 7), sumL_map (h := cnv_bool) cnv_bool_c (gl x 8)]
theorem c_Result_cz (x : V) : c_Result x ≤ 8 * (1 + z_Result x) := by
  have h0 : sumL c_Fact (gl x 2) ≤ 5 * zS z_Fact (gl x 2) := sumL_mul 5 fun y _ => c_Fact_cz y
  have h1 : sumL c_Call (gl x 3) ≤ 8 * zS z_Call (gl x 3) := sumL_mul 8 fun y _ => c_Call_cz y
  have h2 : sumL c_Note (gl x 4) ≤ 6 * zS z_Note (gl x 4) := sumL_mul 6 fun y _ => c_Note_cz y
  have h3 : sumL c_Note (gl x 5) ≤ 6 * zS z_Note (gl x 5) := sumL_mul 6 fun y _ => c_Note_cz y
  have h4 : sumL c_Node (gl x 6) ≤ 7 * zS z_Node (gl x 6) := sumL_mul 7 fun y _ => c_Node_cz y
  have h5 : sumL c_State (gl x 7) ≤ 4 * zS z_State (gl x 7) := sumL_mul 4 fun y _ => c_State_cz y
  have h6 : sumL c1 (gl x 8) ≤ 1 * zS z0 (gl x 8) := by rw [sumL_c1, zS_z0]; omega
  simp only [c_Result, z_Result]; omega
theorem ct_Result_cz (x : V) : ct_Result x ≤ 8 * z_Result x := by
  have h0 : sumL c_Fact (gl x 2) ≤ 5 * zS z_Fact (gl x 2) := sumL_mul 5 fun y _ => c_Fact_cz y
  have h1 : sumL c_Call (gl x 3) ≤ 8 * zS z_Call (gl x 3) := sumL_mul 8 fun y _ => c_Call_cz y
  have h2 : sumL c_Note (gl x 4) ≤ 6 * zS z_Note (gl x 4) := sumL_mul 6 fun y _ => c_Note_cz y
  have h3 : sumL c_Note (gl x 5) ≤ 6 * zS z_Note (gl x 5) := sumL_mul 6 fun y _ => c_Note_cz y
  have h4 : sumL c_Node (gl x 6) ≤ 7 * zS z_Node (gl x 6) := sumL_mul 7 fun y _ => c_Node_cz y
  have h5 : sumL c_State (gl x 7) ≤ 4 * zS z_State (gl x 7) := sumL_mul 4 fun y _ => c_State_cz y
  have h6 : sumL c1 (gl x 8) ≤ 1 * zS z0 (gl x 8) := by rw [sumL_c1, zS_z0]; omega
  simp only [ct_Result, z_Result]; omega
def W_Reply (x : V) : Prop := I64 (gi x 0) ∧ I64 (gi x 1)
def z_Reply (x : V) : Nat := 0
def c_Reply (x : V) : Nat := 1 + 1
def ct_Reply (x : V) : Nat := 0
def M_Reply (x : V) (k : Int) : Prop := gi x 0 = k ∧ gi x 1 = k + 1
def cnv_Reply (x : V) : V := V.agg [(V.int .i64 (gi x 0)), (V.int .i64 (gi x 1))]
theorem cnv_Reply_W (x : V) (h : W_Reply x) : W_Reply (cnv_Reply x) := ⟨h.1, h.2⟩
theorem cnv_Reply_z (x : V) : z_Reply (cnv_Reply x) = z_Reply x := rfl
theorem cnv_Reply_c (x : V) : c_Reply (cnv_Reply x) = c_Reply x := rfl
theorem cnv_Reply_ct (x : V) : ct_Reply (cnv_Reply x) = ct_Reply x := rfl
theorem c_Reply_cz (x : V) : c_Reply x ≤ 2 * (1 + z_Reply x) := by
  simp only [c_Reply, z_Reply]; omega
theorem ct_Reply_cz (x : V) : ct_Reply x ≤ 2 * z_Reply x := by
  simp only [ct_Reply, z_Reply]; omega
def W_View (x : V) : Prop := I64 (gi x 0) ∧ True ∧ LW W_byte (gl x 2)
def z_View (x : V) : Nat := zS z0 (gl x 2)
def c_View (x : V) : Nat := 1 + 1 + sumL c1 (gl x 2)
def ct_View (x : V) : Nat := sumL c1 (gl x 2)
def M_View (x : V) (k : Int) : Prop := gi x 0 = k ∧ gb x 1 = decide ((k + 1).tmod 3 = 0) ∧ MS c1 M_byte (gl x 2) (k + 1 + 1)
def cnv_View (x : V) : V := V.agg [(V.int .i64 (gi x 0)), (V.bool (gb x 1)), V.inl t_byte ((gl x 2).map cnv_byte)]
theorem cnv_View_W (x : V) (h : W_View x) : W_View (cnv_View x) := ⟨h.1, h.2.1, LW.map (h := cnv_byte) cnv_byte_W (h.2.2)⟩
theorem cnv_View_z (x : V) : z_View (cnv_View x) = z_View x := by
  simp only [z_View, show gl (cnv_View x) 2 = (gl x 2).map cnv_byte from rfl, zS_map (h := cnv_byte) cnv_byte_z (gl x 2)]
theorem cnv_View_c (x : V) : c_View (cnv_View x) = c_View x := by
  simp only [c_View, show gl (cnv_View x) 2 = (gl x 2).map cnv_byte from rfl, sumL_map (h := cnv_byte) cnv_byte_c (gl x 2)]
theorem cnv_View_ct (x : V) : ct_View (cnv_View x) = ct_View x := by
  simp only [ct_View, show gl (cnv_View x) 2 = (gl x 2).map cnv_byte from rfl, sumL_map (h := cnv_byte) cnv_byte_c (gl x 2)]
theorem c_View_cz (x : V) : c_View x ≤ 2 * (1 + z_View x) := by
  have h0 : sumL c1 (gl x 2) ≤ 1 * zS z0 (gl x 2) := by rw [sumL_c1, zS_z0]; omega
  simp only [c_View, z_View]; omega
theorem ct_View_cz (x : V) : ct_View x ≤ 2 * z_View x := by
  have h0 : sumL c1 (gl x 2) ≤ 1 * zS z0 (gl x 2) := by rw [sumL_c1, zS_z0]; omega
  simp only [ct_View, z_View]; omega
def W_Cmd (x : V) : Prop := I64 (gi x 0) ∧ I64 (gi x 1) ∧ I64 (gi x 2) ∧ LW W_byte (gl x 3) ∧ LW W_byte (gl x 4) ∧ I64 (gi x 5)
def z_Cmd (x : V) : Nat := zS z0 (gl x 3) + zS z0 (gl x 4)
def c_Cmd (x : V) : Nat := 1 + 1 + 1 + sumL c1 (gl x 3) + sumL c1 (gl x 4) + 1
def ct_Cmd (x : V) : Nat := sumL c1 (gl x 3) + sumL c1 (gl x 4)
def M_Cmd (x : V) (k : Int) : Prop := gi x 0 = k ∧ gi x 1 = k + 1 ∧ gi x 2 = k + 1 + 1 ∧ MS c1 M_byte (gl x 3) (k + 1 + 1 + 1) ∧ MS c1 M_byte (gl x 4) (k + 1 + 1 + 1 + ((sumL c1 (gl x 3) : Nat) : Int)) ∧ gi x 5 = k + 1 + 1 + 1 + ((sumL c1 (gl x 3) : Nat) : Int) + ((sumL c1 (gl x 4) : Nat) : Int)
def cnv_Cmd (x : V) : V := V.agg [(V.int .i64 (gi x 0)), (V.int .i64 (gi x 1)), (V.int .i64 (gi x 2)), V.inl t_byte ((gl x 3).map cnv_byte), V.inl t_byte ((gl x 4).map cnv_byte), (V.int .i64 (gi x 5))]
theorem cnv_Cmd_W (x : V) (h : W_Cmd x) : W_Cmd (cnv_Cmd x) := ⟨h.1, h.2.1, h.2.2.1, LW.map (h := cnv_byte) cnv_byte_W (h.2.2.2.1), LW.map (h := cnv_byte) cnv_byte_W (h.2.2.2.2.1), h.2.2.2.2.2⟩
theorem cnv_Cmd_z (x : V) : z_Cmd (cnv_Cmd x) = z_Cmd x := by
  simp only [z_Cmd, show gl (cnv_Cmd x) 3 = (gl x 3).map cnv_byte from rfl, show gl (cnv_Cmd x) 4 = (gl x 4).map cnv_byte from rfl, zS_map (h := cnv_byte) cnv_byte_z (gl x 3), zS_map (h := cnv_byte) cnv_byte_z (gl x 4)]
theorem cnv_Cmd_c (x : V) : c_Cmd (cnv_Cmd x) = c_Cmd x := by
  simp only [c_Cmd, show gl (cnv_Cmd x) 3 = (gl x 3).map cnv_byte from rfl, show gl (cnv_Cmd x) 4 = (gl x 4).map cnv_byte from rfl, sumL_map (h := cnv_byte) cnv_byte_c (gl x 3), sumL_map (h := cnv_byte) cnv_byte_c (gl x 4)]
theorem cnv_Cmd_ct (x : V) : ct_Cmd (cnv_Cmd x) = ct_Cmd x := by
  simp only [ct_Cmd, show gl (cnv_Cmd x) 3 = (gl x 3).map cnv_byte from rfl, show gl (cnv_Cmd x) 4 = (gl x 4).map cnv_byte from rfl, sumL_map (h := cnv_byte) cnv_byte_c (gl x 3), sumL_map (h := cnv_byte) cnv_byte_c (gl x 4)]
theorem c_Cmd_cz (x : V) : c_Cmd x ≤ 4 * (1 + z_Cmd x) := by
  have h0 : sumL c1 (gl x 3) ≤ 1 * zS z0 (gl x 3) := by rw [sumL_c1, zS_z0]; omega
  have h1 : sumL c1 (gl x 4) ≤ 1 * zS z0 (gl x 4) := by rw [sumL_c1, zS_z0]; omega
  simp only [c_Cmd, z_Cmd]; omega
theorem ct_Cmd_cz (x : V) : ct_Cmd x ≤ 4 * z_Cmd x := by
  have h0 : sumL c1 (gl x 3) ≤ 1 * zS z0 (gl x 3) := by rw [sumL_c1, zS_z0]; omega
  have h1 : sumL c1 (gl x 4) ≤ 1 * zS z0 (gl x 4) := by rw [sumL_c1, zS_z0]; omega
  simp only [ct_Cmd, z_Cmd]; omega
def W_server (x : V) : Prop := I64 (gi x 0) ∧ I64 (gi x 1) ∧ I64 (gi x 2) ∧ LW W_Item (gl x 3) ∧ I64 (gi x 4) ∧ I64 (gi x 5) ∧ I64 (gi x 6) ∧ I64 (gi x 7) ∧ LW W_bool (gl x 8) ∧ LW W_int (gl x 9) ∧ LW W_int (gl x 10) ∧ LW W_Msg (gl x 11)
def z_server (x : V) : Nat := zS z_Item (gl x 3) + zS z0 (gl x 8) + zS z0 (gl x 9) + zS z0 (gl x 10) + zS z_Msg (gl x 11)
def c_server (x : V) : Nat := 1 + 1 + 1 + sumL c_Item (gl x 3) + 1 + 1 + 1 + 1 + sumL c1 (gl x 8) + sumL c1 (gl x 9) + sumL c1 (gl x 10) + sumL c_Msg (gl x 11)
def ct_server (x : V) : Nat := sumL c_Item (gl x 3) + sumL c1 (gl x 8) + sumL c1 (gl x 9) + sumL c1 (gl x 10) + sumL c_Msg (gl x 11)
def M_server (x : V) (k : Int) : Prop := gi x 0 = k ∧ gi x 1 = k + 1 ∧ gi x 2 = k + 1 + 1 ∧ MS c_Item M_Item (gl x 3) (k + 1 + 1 + 1) ∧ gi x 4 = k + 1 + 1 + 1 + ((sumL c_Item (gl x 3) : Nat) : Int) ∧ gi x 5 = k + 1 + 1 + 1 + ((sumL c_Item (gl x 3) : Nat) : Int) + 1 ∧ gi x 6 = k + 1 + 1 + 1 + ((sumL c_Item (gl x 3) : Nat) : Int) + 1 + 1 ∧ gi x 7 = k + 1 + 1 + 1 + ((sumL c_Item (gl x 3) : Nat) : Int) + 1 + 1 + 1 ∧ MS c1 M_bool (gl x 8) (k + 1 + 1 + 1 + ((sumL c_Item (gl x 3) : Nat) : Int) + 1 + 1 + 1 + 1) ∧ MS c1 M_int (gl x 9) (k + 1 + 1 + 1 + ((sumL c_Item (gl x 3) : Nat) : Int) + 1 + 1 + 1 + 1 + ((sumL c1 (gl x 8) : Nat) : Int)) ∧ MS c1 M_int (gl x 10) (k + 1 + 1 + 1 + ((sumL c_Item (gl x 3) : Nat) : Int) + 1 + 1 + 1 + 1 + ((sumL c1 (gl x 8) : Nat) : Int) + ((sumL c1 (gl x 9) : Nat) : Int)) ∧ MS c_Msg M_Msg (gl x 11) (k + 1 + 1 + 1 + ((sumL c_Item (gl x 3) : Nat) : Int) + 1 + 1 + 1 + 1 + ((sumL c1 (gl x 8) : Nat) : Int) + ((sumL c1 (gl x 9) : Nat) : Int) + ((sumL c1 (gl x 10) : Nat) : Int))
def cnv_server (x : V) : V := V.agg [(V.int .i64 (gi x 0)), (V.int .i64 (gi x 1)), (V.int .i64 (gi x 2)), V.inl t_impl_Item ((gl x 3).map cnv_Item), (V.int .i64 (gi x 4)), (V.int .i64 (gi x 5)), (V.int .i64 (gi x 6)), (V.int .i64 (gi x 7)), V.inl t_bool ((gl x 8).map cnv_bool), V.inl t_int' ((gl x 9).map cnv_int), V.inl t_int' ((gl x 10).map cnv_int), V.inl t_impl_Msg ((gl x 11).map cnv_Msg)]
theorem cnv_server_W (x : V) (h : W_server x) : W_server (cnv_server x) := ⟨h.1, h.2.1, h.2.2.1, LW.map (h := cnv_Item) cnv_Item_W (h.2.2.2.1), h.2.2.2.2.1, h.2.2.2.2.2.1, h.2.2.2.2.2.2.1, h.2.2.2.2.2.2.2.1, LW.map (h := cnv_bool) cnv_bool_W (h.2.2.2.2.2.2.2.2.1), LW.map (h := cnv_int) cnv_int_W (h.2.2.2.2.2.2.2.2.2.1), LW.map (h := cnv_int) cnv_int_W (h.2.2.2.2.2.2.2.2.2.2.1), LW.map (h := cnv_Msg) cnv_Msg_W (h.2.2.2.2.2.2.2.2.2.2.2)⟩
theorem cnv_server_z (x : V) : z_server (cnv_server x) = z_server x := by
  simp only [z_server, show gl (cnv_server x) 3 = (gl x 3).map cnv_Item from rfl, show gl (cnv_server x) 8 = (gl x 8).map cnv_bool from rfl, show gl (cnv_server x) 9 = (gl x 9).map cnv_int from rfl, show gl (cnv_server x) 10 = (gl x 10).map cnv_int from rfl, show gl (cnv_server x) 11 = (gl x 11).map cnv_Msg from rfl, zS_map (h := cnv_Item) cnv_Item_z (gl x 3), zS_map (h := cnv_bool) cnv_bool_z (gl x 8), zS_map (h := cnv_int) cnv_int_z (gl x 9), zS_map (h := cnv_int) cnv_int_z (gl x 10), zS_map (h := cnv_Msg) cnv_Msg_z (gl x 11)]
theorem cnv_server_c (x : V) : c_server (cnv_server x) = c_server x := by
  simp only [c_server, show gl (cnv_server x) 3 = (gl x 3).map cnv_Item from rfl, show gl (cnv_server x) 8 = (gl x 8).map cnv_bool from rfl, show gl (cnv_server x) 9 = (gl x 9).map cnv_int from rfl, show gl (cnv_server x) 10 = (gl x 10).map cnv_int from rfl, show gl (cnv_server x) 11 = (gl x 11).map cnv_Msg from rfl, sumL_map (h := cnv_Item) cnv_Item_c (gl x 3), sumL_map (h := cnv_bool) cnv_bool_c (gl x 8), sumL_map (h := cnv_int) cnv_int_c (gl x 9), sumL_map (h := cnv_int) cnv_int_c (gl x 10), sumL_map (h := cnv_Msg) cnv_Msg_c (gl x 11)]
theorem cnv_server_ct (x : V) : ct_server (cnv_server x) = ct_server x := by
  simp only [ct_server, show gl (cnv_server x) 3 = (gl x 3).map cnv_Item from rfl, show gl (cnv_server x) 8 = (gl x 8).map cnv_bool from rfl, show gl (cnv_server x) 9 = (gl x 9).map cnv_int from rfl, show gl (cnv_server x) 10 = (gl x 10).map cnv_int from rfl, show gl (cnv_server x) 11 = (gl x 11).map cnv_Msg from rfl, sumL_map (h := cnv_Item) cnv_Item_c (gl x 3), sumL_map (h := cnv_bool) cnv_bool_c (gl x 8), sumL_map (h := cnv_int) cnv_int_c (gl x 9), sumL_map (h := cnv_int) cnv_int_c (gl x 10), sumL_map (h := cnv_Msg) cnv_Msg_c (gl x 11)]
theorem c_server_cz (x : V) : c_server x ≤ 8 * (1 + z_server x) := by
  have h0 : sumL c_Item (gl x 3) ≤ 5 * zS z_Item (gl x 3) := sumL_mul 5 fun y _ => c_Item_cz y
  have h1 : sumL c1 (gl x 8) ≤ 1 * zS z0 (gl x 8) := by rw [sumL_c1, zS_z0]; omega
  have h2 : sumL c1 (gl x 9) ≤ 1 * zS z0 (gl x 9) := by rw [sumL_c1, zS_z0]; omega
  have h3 : sumL c1 (gl x 10) ≤ 1 * zS z0 (gl x 10) := by rw [sumL_c1, zS_z0]; omega
  have h4 : sumL c_Msg (gl x 11) ≤ 8 * zS z_Msg (gl x 11) := sumL_mul 8 fun y _ => c_Msg_cz y
  simp only [c_server, z_server]; omega
theorem ct_server_cz (x : V) : ct_server x ≤ 8 * z_server x := by
  have h0 : sumL c_Item (gl x 3) ≤ 5 * zS z_Item (gl x 3) := sumL_mul 5 fun y _ => c_Item_cz y
  have h1 : sumL c1 (gl x 8) ≤ 1 * zS z0 (gl x 8) := by rw [sumL_c1, zS_z0]; omega
  have h2 : sumL c1 (gl x 9) ≤ 1 * zS z0 (gl x 9) := by rw [sumL_c1, zS_z0]; omega
  have h3 : sumL c1 (gl x 10) ≤ 1 * zS z0 (gl x 10) := by rw [sumL_c1, zS_z0]; omega
  have h4 : sumL c_Msg (gl x 11) ≤ 8 * zS z_Msg (gl x 11) := sumL_mul 8 fun y _ => c_Msg_cz y
  simp only [ct_server, z_server]; omega
def W_watch (x : V) : Prop := LW W_byte (gl x 0) ∧ I64 (gi x 1)
def z_watch (x : V) : Nat := zS z0 (gl x 0)
def c_watch (x : V) : Nat := sumL c1 (gl x 0) + 1
def ct_watch (x : V) : Nat := sumL c1 (gl x 0)
def M_watch (x : V) (k : Int) : Prop := MS c1 M_byte (gl x 0) (k) ∧ gi x 1 = k + ((sumL c1 (gl x 0) : Nat) : Int)
def cnv_watch (x : V) : V := V.agg [V.inl t_byte ((gl x 0).map cnv_byte), (V.int .i64 (gi x 1))]
theorem cnv_watch_W (x : V) (h : W_watch x) : W_watch (cnv_watch x) := ⟨LW.map (h := cnv_byte) cnv_byte_W (h.1), h.2⟩
theorem cnv_watch_z (x : V) : z_watch (cnv_watch x) = z_watch x := by
  simp only [z_watch, show gl (cnv_watch x) 0 = (gl x 0).map cnv_byte from rfl, zS_map (h := cnv_byte) cnv_byte_z (gl x 0)]
theorem cnv_watch_c (x : V) : c_watch (cnv_watch x) = c_watch x := by
  simp only [c_watch, show gl (cnv_watch x) 0 = (gl x 0).map cnv_byte from rfl, sumL_map (h := cnv_byte) cnv_byte_c (gl x 0)]
theorem cnv_watch_ct (x : V) : ct_watch (cnv_watch x) = ct_watch x := by
  simp only [ct_watch, show gl (cnv_watch x) 0 = (gl x 0).map cnv_byte from rfl, sumL_map (h := cnv_byte) cnv_byte_c (gl x 0)]
theorem c_watch_cz (x : V) : c_watch x ≤ 1 * (1 + z_watch x) := by
  have h0 : sumL c1 (gl x 0) ≤ 1 * zS z0 (gl x 0) := by rw [sumL_c1, zS_z0]; omega
  simp only [c_watch, z_watch]; omega
theorem ct_watch_cz (x : V) : ct_watch x ≤ 1 * z_watch x := by
  have h0 : sumL c1 (gl x 0) ≤ 1 * zS z0 (gl x 0) := by rw [sumL_c1, zS_z0]; omega
  simp only [ct_watch, z_watch]; omega
def W_seat (x : V) : Prop := I64 (gi x 0) ∧ I64 (gi x 1) ∧ I64 (gi x 2) ∧ LW W_Item (gl x 3) ∧ I64 (gi x 4) ∧ I64 (gi x 5) ∧ I64 (gi x 6) ∧ I64 (gi x 7) ∧ LW W_bool (gl x 8) ∧ LW W_int (gl x 9) ∧ LW W_int (gl x 10) ∧ I64 (gi x 11) ∧ LW W_Row (gl x 12) ∧ LW W_Tomb (gl x 13) ∧ I64 (gi x 14) ∧ LW W_Session (gl x 15) ∧ LW W_Last (gl x 16) ∧ I64 (gi x 17) ∧ True ∧ LW W_watch (gl x 19)
def z_seat (x : V) : Nat := zS z_Item (gl x 3) + zS z0 (gl x 8) + zS z0 (gl x 9) + zS z0 (gl x 10) + zS z_Row (gl x 12) + zS z_Tomb (gl x 13) + zS z_Session (gl x 15) + zS z_Last (gl x 16) + zS z_watch (gl x 19)
def c_seat (x : V) : Nat := 1 + 1 + 1 + sumL c_Item (gl x 3) + 1 + 1 + 1 + 1 + sumL c1 (gl x 8) + sumL c1 (gl x 9) + sumL c1 (gl x 10) + 1 + sumL c_Row (gl x 12) + sumL c_Tomb (gl x 13) + 1 + sumL c_Session (gl x 15) + sumL c_Last (gl x 16) + 1 + 1 + sumL c_watch (gl x 19)
def ct_seat (x : V) : Nat := sumL c_Item (gl x 3) + sumL c1 (gl x 8) + sumL c1 (gl x 9) + sumL c1 (gl x 10) + sumL c_Row (gl x 12) + sumL c_Tomb (gl x 13) + sumL c_Session (gl x 15) + sumL c_Last (gl x 16) + sumL c_watch (gl x 19)
def M_seat (x : V) (k : Int) : Prop := gi x 0 = k ∧ gi x 1 = k + 1 ∧ gi x 2 = k + 1 + 1 ∧ MS c_Item M_Item (gl x 3) (k + 1 + 1 + 1) ∧ gi x 4 = k + 1 + 1 + 1 + ((sumL c_Item (gl x 3) : Nat) : Int) ∧ gi x 5 = k + 1 + 1 + 1 + ((sumL c_Item (gl x 3) : Nat) : Int) + 1 ∧ gi x 6 = k + 1 + 1 + 1 + ((sumL c_Item (gl x 3) : Nat) : Int) + 1 + 1 ∧ gi x 7 = k + 1 + 1 + 1 + ((sumL c_Item (gl x 3) : Nat) : Int) + 1 + 1 + 1 ∧ MS c1 M_bool (gl x 8) (k + 1 + 1 + 1 + ((sumL c_Item (gl x 3) : Nat) : Int) + 1 + 1 + 1 + 1) ∧ MS c1 M_int (gl x 9) (k + 1 + 1 + 1 + ((sumL c_Item (gl x 3) : Nat) : Int) + 1 + 1 + 1 + 1 + ((sumL c1 (gl x 8) : Nat) : Int)) ∧ MS c1 M_int (gl x 10) (k + 1 + 1 + 1 + ((sumL c_Item (gl x 3) : Nat) : Int) + 1 + 1 + 1 + 1 + ((sumL c1 (gl x 8) : Nat) : Int) + ((sumL c1 (gl x 9) : Nat) : Int)) ∧ gi x 11 = k + 1 + 1 + 1 + ((sumL c_Item (gl x 3) : Nat) : Int) + 1 + 1 + 1 + 1 + ((sumL c1 (gl x 8) : Nat) : Int) + ((sumL c1 (gl x 9) : Nat) : Int) + ((sumL c1 (gl x 10) : Nat) : Int) ∧ MS c_Row M_Row (gl x 12) (k + 1 + 1 + 1 + ((sumL c_Item (gl x 3) : Nat) : Int) + 1 + 1 + 1 + 1 + ((sumL c1 (gl x 8) : Nat) : Int) + ((sumL c1 (gl x 9) : Nat) : Int) + ((sumL c1 (gl x 10) : Nat) : Int) + 1) ∧ MS c_Tomb M_Tomb (gl x 13) (k + 1 + 1 + 1 + ((sumL c_Item (gl x 3) : Nat) : Int) + 1 + 1 + 1 + 1 + ((sumL c1 (gl x 8) : Nat) : Int) + ((sumL c1 (gl x 9) : Nat) : Int) + ((sumL c1 (gl x 10) : Nat) : Int) + 1 + ((sumL c_Row (gl x 12) : Nat) : Int)) ∧ gi x 14 = k + 1 + 1 + 1 + ((sumL c_Item (gl x 3) : Nat) : Int) + 1 + 1 + 1 + 1 + ((sumL c1 (gl x 8) : Nat) : Int) + ((sumL c1 (gl x 9) : Nat) : Int) + ((sumL c1 (gl x 10) : Nat) : Int) + 1 + ((sumL c_Row (gl x 12) : Nat) : Int) + ((sumL c_Tomb (gl x 13) : Nat) : Int) ∧ MS c_Session M_Session (gl x 15) (k + 1 + 1 + 1 + ((sumL c_Item (gl x 3) : Nat) : Int) + 1 + 1 + 1 + 1 + ((sumL c1 (gl x 8) : Nat) : Int) + ((sumL c1 (gl x 9) : Nat) : Int) + ((sumL c1 (gl x 10) : Nat) : Int) + 1 + ((sumL c_Row (gl x 12) : Nat) : Int) + ((sumL c_Tomb (gl x 13) : Nat) : Int) + 1) ∧ MS c_Last M_Last (gl x 16) (k + 1 + 1 + 1 + ((sumL c_Item (gl x 3) : Nat) : Int) + 1 + 1 + 1 + 1 + ((sumL c1 (gl x 8) : Nat) : Int) + ((sumL c1 (gl x 9) : Nat) : Int) + ((sumL c1 (gl x 10) : Nat) : Int) + 1 + ((sumL c_Row (gl x 12) : Nat) : Int) + ((sumL c_Tomb (gl x 13) : Nat) : Int) + 1 + ((sumL c_Session (gl x 15) : Nat) : Int)) ∧ gi x 17 = k + 1 + 1 + 1 + ((sumL c_Item (gl x 3) : Nat) : Int) + 1 + 1 + 1 + 1 + ((sumL c1 (gl x 8) : Nat) : Int) + ((sumL c1 (gl x 9) : Nat) : Int) + ((sumL c1 (gl x 10) : Nat) : Int) + 1 + ((sumL c_Row (gl x 12) : Nat) : Int) + ((sumL c_Tomb (gl x 13) : Nat) : Int) + 1 + ((sumL c_Session (gl x 15) : Nat) : Int) + ((sumL c_Last (gl x 16) : Nat) : Int) ∧ gb x 18 = decide ((k + 1 + 1 + 1 + ((sumL c_Item (gl x 3) : Nat) : Int) + 1 + 1 + 1 + 1 + ((sumL c1 (gl x 8) : Nat) : Int) + ((sumL c1 (gl x 9) : Nat) : Int) + ((sumL c1 (gl x 10) : Nat) : Int) + 1 + ((sumL c_Row (gl x 12) : Nat) : Int) + ((sumL c_Tomb (gl x 13) : Nat) : Int) + 1 + ((sumL c_Session (gl x 15) : Nat) : Int) + ((sumL c_Last (gl x 16) : Nat) : Int) + 1).tmod 3 = 0) ∧ MS c_watch M_watch (gl x 19) (k + 1 + 1 + 1 + ((sumL c_Item (gl x 3) : Nat) : Int) + 1 + 1 + 1 + 1 + ((sumL c1 (gl x 8) : Nat) : Int) + ((sumL c1 (gl x 9) : Nat) : Int) + ((sumL c1 (gl x 10) : Nat) : Int) + 1 + ((sumL c_Row (gl x 12) : Nat) : Int) + ((sumL c_Tomb (gl x 13) : Nat) : Int) + 1 + ((sumL c_Session (gl x 15) : Nat) : Int) + ((sumL c_Last (gl x 16) : Nat) : Int) + 1 + 1)
def cnv_seat (x : V) : V := V.agg [(V.int .i64 (gi x 0)), (V.int .i64 (gi x 1)), (V.int .i64 (gi x 2)), V.inl t_impl_Item ((gl x 3).map cnv_Item), (V.int .i64 (gi x 4)), (V.int .i64 (gi x 5)), (V.int .i64 (gi x 6)), (V.int .i64 (gi x 7)), V.inl t_bool ((gl x 8).map cnv_bool), V.inl t_int' ((gl x 9).map cnv_int), V.inl t_int' ((gl x 10).map cnv_int), (V.int .i64 (gi x 11)), V.inl t_impl_Row ((gl x 12).map cnv_Row), V.inl t_impl_Tomb ((gl x 13).map cnv_Tomb), (V.int .i64 (gi x 14)), V.inl t_impl_Session ((gl x 15).map cnv_Session), V.inl t_impl_Last ((gl x 16).map cnv_Last), (V.int .i64 (gi x 17)), (V.bool (gb x 18)), V.inl t_impl_watch ((gl x 19).map cnv_watch)]
theorem cnv_seat_W (x : V) (h : W_seat x) : W_seat (cnv_seat x) := ⟨h.1, h.2.1, h.2.2.1, LW.map (h := cnv_Item) cnv_Item_W (h.2.2.2.1), h.2.2.2.2.1, h.2.2.2.2.2.1, h.2.2.2.2.2.2.1, h.2.2.2.2.2.2.2.1, LW.map (h := cnv_bool) cnv_bool_W (h.2.2.2.2.2.2.2.2.1), LW.map (h := cnv_int) cnv_int_W (h.2.2.2.2.2.2.2.2.2.1), LW.map (h := cnv_int) cnv_int_W (h.2.2.2.2.2.2.2.2.2.2.1), h.2.2.2.2.2.2.2.2.2.2.2.1, LW.map (h := cnv_Row) cnv_Row_W (h.2.2.2.2.2.2.2.2.2.2.2.2.1), LW.map (h := cnv_Tomb) cnv_Tomb_W (h.2.2.2.2.2.2.2.2.2.2.2.2.2.1), h.2.2.2.2.2.2.2.2.2.2.2.2.2.2.1, LW.map (h := cnv_Session) cnv_Session_W (h.2.2.2.2.2.2.2.2.2.2.2.2.2.2.2.1), LW.map (h := cnv_Last) cnv_Last_W (h.2.2.2.2.2.2.2.2.2.2.2.2.2.2.2.2.1), h.2.2.2.2.2.2.2.2.2.2.2.2.2.2.2.2.2.1, h.2.2.2.2.2.2.2.2.2.2.2.2.2.2.2.2.2.2.1, LW.map (h := cnv_watch) cnv_watch_W (h.2.2.2.2.2.2.2.2.2.2.2.2.2.2.2.2.2.2.2)⟩
theorem cnv_seat_z (x : V) : z_seat (cnv_seat x) = z_seat x := by
  simp only [z_seat, show gl (cnv_seat x) 3 = (gl x 3).map cnv_Item from rfl, show gl (cnv_seat x) 8 = (gl x 8).map cnv_bool from rfl, show gl (cnv_seat x) 9 = (gl x 9).map cnv_int from rfl, show gl (cnv_seat x) 10 = (gl x 10).map cnv_int from rfl, show gl (cnv_seat x) 12 = (gl x 12).map cnv_Row from rfl, show gl (cnv_seat x) 13 = (gl x 13).map cnv_Tomb from rfl, show gl (cnv_seat x) 15 = (gl x 15).map cnv_Session from rfl, show gl (cnv_seat x) 16 = (gl x 16).map cnv_Last from rfl, show gl (cnv_seat x) 19 = (gl x 19).map cnv_watch from rfl, zS_map (h := cnv_Item) cnv_Item_z (gl x 3), zS_map (h := cnv_bool) cnv_bool_z (gl x 8), zS_map (h := cnv_int) cnv_int_z (gl x 9), zS_map (h := cnv_int) cnv_int_z (gl x 10), zS_map (h := cnv_Row) cnv_Row_z (gl x 12), zS_map (h := cnv_Tomb) cnv_Tomb_z (gl x 13), zS_map (h := cnv_Session) cnv_Session_z (gl x 15), zS_map (h := cnv_Last) cnv_Last_z (gl x 16), zS_map (h := cnv_watch) cnv_watch_z (gl x 19)]
theorem cnv_seat_c (x : V) : c_seat (cnv_seat x) = c_seat x := by
  simp only [c_seat, show gl (cnv_seat x) 3 = (gl x 3).map cnv_Item from rfl, show gl (cnv_seat x) 8 = (gl x 8).map cnv_bool from rfl, show gl (cnv_seat x) 9 = (gl x 9).map cnv_int from rfl, show gl (cnv_seat x) 10 = (gl x 10).map cnv_int from rfl, show gl (cnv_seat x) 12 = (gl x 12).map cnv_Row from rfl, show gl (cnv_seat x) 13 = (gl x 13).map cnv_Tomb from rfl, show gl (cnv_seat x) 15 = (gl x 15).map cnv_Session from rfl, show gl (cnv_seat x) 16 = (gl x 16).map cnv_Last from rfl, show gl (cnv_seat x) 19 = (gl x 19).map cnv_watch from rfl, sumL_map (h := cnv_Item) cnv_Item_c (gl x 3), sumL_map (h := cnv_bool) cnv_bool_c (gl x 8), sumL_map (h := cnv_int) cnv_int_c (gl x 9), sumL_map (h := cnv_int) cnv_int_c (gl x 10), sumL_map (h := cnv_Row) cnv_Row_c (gl x 12), sumL_map (h := cnv_Tomb) cnv_Tomb_c (gl x 13), sumL_map (h := cnv_Session) cnv_Session_c (gl x 15), sumL_map (h := cnv_Last) cnv_Last_c (gl x 16), sumL_map (h := cnv_watch) cnv_watch_c (gl x 19)]
theorem cnv_seat_ct (x : V) : ct_seat (cnv_seat x) = ct_seat x := by
  simp only [ct_seat, show gl (cnv_seat x) 3 = (gl x 3).map cnv_Item from rfl, show gl (cnv_seat x) 8 = (gl x 8).map cnv_bool from rfl, show gl (cnv_seat x) 9 = (gl x 9).map cnv_int from rfl, show gl (cnv_seat x) 10 = (gl x 10).map cnv_int from rfl, show gl (cnv_seat x) 12 = (gl x 12).map cnv_Row from rfl, show gl (cnv_seat x) 13 = (gl x 13).map cnv_Tomb from rfl, show gl (cnv_seat x) 15 = (gl x 15).map cnv_Session from rfl, show gl (cnv_seat x) 16 = (gl x 16).map cnv_Last from rfl, show gl (cnv_seat x) 19 = (gl x 19).map cnv_watch from rfl, sumL_map (h := cnv_Item) cnv_Item_c (gl x 3), sumL_map (h := cnv_bool) cnv_bool_c (gl x 8), sumL_map (h := cnv_int) cnv_int_c (gl x 9), sumL_map (h := cnv_int) cnv_int_c (gl x 10), sumL_map (h := cnv_Row) cnv_Row_c (gl x 12), sumL_map (h := cnv_Tomb) cnv_Tomb_c (gl x 13), sumL_map (h := cnv_Session) cnv_Session_c (gl x 15), sumL_map (h := cnv_Last) cnv_Last_c (gl x 16), sumL_map (h := cnv_watch) cnv_watch_c (gl x 19)]
theorem c_seat_cz (x : V) : c_seat x ≤ 11 * (1 + z_seat x) := by
  have h0 : sumL c_Item (gl x 3) ≤ 5 * zS z_Item (gl x 3) := sumL_mul 5 fun y _ => c_Item_cz y
  have h1 : sumL c1 (gl x 8) ≤ 1 * zS z0 (gl x 8) := by rw [sumL_c1, zS_z0]; omega
  have h2 : sumL c1 (gl x 9) ≤ 1 * zS z0 (gl x 9) := by rw [sumL_c1, zS_z0]; omega
  have h3 : sumL c1 (gl x 10) ≤ 1 * zS z0 (gl x 10) := by rw [sumL_c1, zS_z0]; omega
  have h4 : sumL c_Row (gl x 12) ≤ 2 * zS z_Row (gl x 12) := sumL_mul 2 fun y _ => c_Row_cz y
  have h5 : sumL c_Tomb (gl x 13) ≤ 1 * zS z_Tomb (gl x 13) := sumL_mul 1 fun y _ => c_Tomb_cz y
  have h6 : sumL c_Session (gl x 15) ≤ 2 * zS z_Session (gl x 15) := sumL_mul 2 fun y _ => c_Session_cz y
  have h7 : sumL c_Last (gl x 16) ≤ 4 * zS z_Last (gl x 16) := sumL_mul 4 fun y _ => c_Last_cz y
  have h8 : sumL c_watch (gl x 19) ≤ 1 * zS z_watch (gl x 19) := sumL_mul 1 fun y _ => c_watch_cz y
  simp only [c_seat, z_seat]; omega
theorem ct_seat_cz (x : V) : ct_seat x ≤ 11 * z_seat x := by
  have h0 : sumL c_Item (gl x 3) ≤ 5 * zS z_Item (gl x 3) := sumL_mul 5 fun y _ => c_Item_cz y
  have h1 : sumL c1 (gl x 8) ≤ 1 * zS z0 (gl x 8) := by rw [sumL_c1, zS_z0]; omega
  have h2 : sumL c1 (gl x 9) ≤ 1 * zS z0 (gl x 9) := by rw [sumL_c1, zS_z0]; omega
  have h3 : sumL c1 (gl x 10) ≤ 1 * zS z0 (gl x 10) := by rw [sumL_c1, zS_z0]; omega
  have h4 : sumL c_Row (gl x 12) ≤ 2 * zS z_Row (gl x 12) := sumL_mul 2 fun y _ => c_Row_cz y
  have h5 : sumL c_Tomb (gl x 13) ≤ 1 * zS z_Tomb (gl x 13) := sumL_mul 1 fun y _ => c_Tomb_cz y
  have h6 : sumL c_Session (gl x 15) ≤ 2 * zS z_Session (gl x 15) := sumL_mul 2 fun y _ => c_Session_cz y
  have h7 : sumL c_Last (gl x 16) ≤ 4 * zS z_Last (gl x 16) := sumL_mul 4 fun y _ => c_Last_cz y
  have h8 : sumL c_watch (gl x 19) ≤ 1 * zS z_watch (gl x 19) := sumL_mul 1 fun y _ => c_watch_cz y
  simp only [ct_seat, z_seat]; omega
def W_packet (x : V) : Prop := I64 (gi x 0) ∧ I64 (gi x 1) ∧ I64 (gi x 2) ∧ I64 (gi x 3) ∧ I64 (gi x 4) ∧ I64 (gi x 5) ∧ I64 (gi x 6) ∧ LW W_Item (gl x 7) ∧ I64 (gi x 8) ∧ True ∧ I64 (gi x 10) ∧ I64 (gi x 11) ∧ I64 (gi x 12) ∧ I64 (gi x 13) ∧ LW W_byte (gl x 14) ∧ LW W_byte (gl x 15) ∧ I64 (gi x 16) ∧ I64 (gi x 17) ∧ I64 (gi x 18) ∧ I64 (gi x 19) ∧ I64 (gi x 20)
def z_packet (x : V) : Nat := zS z_Item (gl x 7) + zS z0 (gl x 14) + zS z0 (gl x 15)
def c_packet (x : V) : Nat := 1 + 1 + 1 + 1 + 1 + 1 + 1 + sumL c_Item (gl x 7) + 1 + 1 + 1 + 1 + 1 + 1 + sumL c1 (gl x 14) + sumL c1 (gl x 15) + 1 + 1 + 1 + 1 + 1
def ct_packet (x : V) : Nat := sumL c_Item (gl x 7) + sumL c1 (gl x 14) + sumL c1 (gl x 15)
def M_packet (x : V) (k : Int) : Prop := gi x 0 = k ∧ gi x 1 = k + 1 ∧ gi x 2 = k + 1 + 1 ∧ gi x 3 = k + 1 + 1 + 1 ∧ gi x 4 = k + 1 + 1 + 1 + 1 ∧ gi x 5 = k + 1 + 1 + 1 + 1 + 1 ∧ gi x 6 = k + 1 + 1 + 1 + 1 + 1 + 1 ∧ MS c_Item M_Item (gl x 7) (k + 1 + 1 + 1 + 1 + 1 + 1 + 1) ∧ gi x 8 = k + 1 + 1 + 1 + 1 + 1 + 1 + 1 + ((sumL c_Item (gl x 7) : Nat) : Int) ∧ gb x 9 = decide ((k + 1 + 1 + 1 + 1 + 1 + 1 + 1 + ((sumL c_Item (gl x 7) : Nat) : Int) + 1).tmod 3 = 0) ∧ gi x 10 = k + 1 + 1 + 1 + 1 + 1 + 1 + 1 + ((sumL c_Item (gl x 7) : Nat) : Int) + 1 + 1 ∧ gi x 11 = k + 1 + 1 + 1 + 1 + 1 + 1 + 1 + ((sumL c_Item (gl x 7) : Nat) : Int) + 1 + 1 + 1 ∧ gi x 12 = k + 1 + 1 + 1 + 1 + 1 + 1 + 1 + ((sumL c_Item (gl x 7) : Nat) : Int) + 1 + 1 + 1 + 1 ∧ gi x 13 = k + 1 + 1 + 1 + 1 + 1 + 1 + 1 + ((sumL c_Item (gl x 7) : Nat) : Int) + 1 + 1 + 1 + 1 + 1 ∧ MS c1 M_byte (gl x 14) (k + 1 + 1 + 1 + 1 + 1 + 1 + 1 + ((sumL c_Item (gl x 7) : Nat) : Int) + 1 + 1 + 1 + 1 + 1 + 1) ∧ MS c1 M_byte (gl x 15) (k + 1 + 1 + 1 + 1 + 1 + 1 + 1 + ((sumL c_Item (gl x 7) : Nat) : Int) + 1 + 1 + 1 + 1 + 1 + 1 + ((sumL c1 (gl x 14) : Nat) : Int)) ∧ gi x 16 = k + 1 + 1 + 1 + 1 + 1 + 1 + 1 + ((sumL c_Item (gl x 7) : Nat) : Int) + 1 + 1 + 1 + 1 + 1 + 1 + ((sumL c1 (gl x 14) : Nat) : Int) + ((sumL c1 (gl x 15) : Nat) : Int) ∧ gi x 17 = k + 1 + 1 + 1 + 1 + 1 + 1 + 1 + ((sumL c_Item (gl x 7) : Nat) : Int) + 1 + 1 + 1 + 1 + 1 + 1 + ((sumL c1 (gl x 14) : Nat) : Int) + ((sumL c1 (gl x 15) : Nat) : Int) + 1 ∧ gi x 18 = k + 1 + 1 + 1 + 1 + 1 + 1 + 1 + ((sumL c_Item (gl x 7) : Nat) : Int) + 1 + 1 + 1 + 1 + 1 + 1 + ((sumL c1 (gl x 14) : Nat) : Int) + ((sumL c1 (gl x 15) : Nat) : Int) + 1 + 1 ∧ gi x 19 = k + 1 + 1 + 1 + 1 + 1 + 1 + 1 + ((sumL c_Item (gl x 7) : Nat) : Int) + 1 + 1 + 1 + 1 + 1 + 1 + ((sumL c1 (gl x 14) : Nat) : Int) + ((sumL c1 (gl x 15) : Nat) : Int) + 1 + 1 + 1 ∧ gi x 20 = k + 1 + 1 + 1 + 1 + 1 + 1 + 1 + ((sumL c_Item (gl x 7) : Nat) : Int) + 1 + 1 + 1 + 1 + 1 + 1 + ((sumL c1 (gl x 14) : Nat) : Int) + ((sumL c1 (gl x 15) : Nat) : Int) + 1 + 1 + 1 + 1
def cnv_packet (x : V) : V := V.agg [(V.int .i64 (gi x 0)), (V.int .i64 (gi x 1)), (V.int .i64 (gi x 2)), (V.int .i64 (gi x 3)), (V.int .i64 (gi x 4)), (V.int .i64 (gi x 5)), (V.int .i64 (gi x 6)), V.inl t_impl_Item ((gl x 7).map cnv_Item), (V.int .i64 (gi x 8)), (V.bool (gb x 9)), (V.int .i64 (gi x 10)), (V.int .i64 (gi x 11)), (V.int .i64 (gi x 12)), (V.int .i64 (gi x 13)), V.inl t_byte ((gl x 14).map cnv_byte), V.inl t_byte ((gl x 15).map cnv_byte), (V.int .i64 (gi x 16)), (V.int .i64 (gi x 17)), (V.int .i64 (gi x 18)), (V.int .i64 (gi x 19)), (V.int .i64 (gi x 20))]
theorem cnv_packet_W (x : V) (h : W_packet x) : W_packet (cnv_packet x) := ⟨h.1, h.2.1, h.2.2.1, h.2.2.2.1, h.2.2.2.2.1, h.2.2.2.2.2.1, h.2.2.2.2.2.2.1, LW.map (h := cnv_Item) cnv_Item_W (h.2.2.2.2.2.2.2.1), h.2.2.2.2.2.2.2.2.1, h.2.2.2.2.2.2.2.2.2.1, h.2.2.2.2.2.2.2.2.2.2.1, h.2.2.2.2.2.2.2.2.2.2.2.1, h.2.2.2.2.2.2.2.2.2.2.2.2.1, h.2.2.2.2.2.2.2.2.2.2.2.2.2.1, LW.map (h := cnv_byte) cnv_byte_W (h.2.2.2.2.2.2.2.2.2.2.2.2.2.2.1), LW.map (h := cnv_byte) cnv_byte_W (h.2.2.2.2.2.2.2.2.2.2.2.2.2.2.2.1), h.2.2.2.2.2.2.2.2.2.2.2.2.2.2.2.2.1, h.2.2.2.2.2.2.2.2.2.2.2.2.2.2.2.2.2.1, h.2.2.2.2.2.2.2.2.2.2.2.2.2.2.2.2.2.2.1, h.2.2.2.2.2.2.2.2.2.2.2.2.2.2.2.2.2.2.2.1, h.2.2.2.2.2.2.2.2.2.2.2.2.2.2.2.2.2.2.2.2⟩
theorem cnv_packet_z (x : V) : z_packet (cnv_packet x) = z_packet x := by
  simp only [z_packet, show gl (cnv_packet x) 7 = (gl x 7).map cnv_Item from rfl, show gl (cnv_packet x) 14 = (gl x 14).map cnv_byte from rfl, show gl (cnv_packet x) 15 = (gl x 15).map cnv_byte from rfl, zS_map (h := cnv_Item) cnv_Item_z (gl x 7), zS_map (h := cnv_byte) cnv_byte_z (gl x 14), zS_map (h := cnv_byte) cnv_byte_z (gl x 15)]
theorem cnv_packet_c (x : V) : c_packet (cnv_packet x) = c_packet x := by
  simp only [c_packet, show gl (cnv_packet x) 7 = (gl x 7).map cnv_Item from rfl, show gl (cnv_packet x) 14 = (gl x 14).map cnv_byte from rfl, show gl (cnv_packet x) 15 = (gl x 15).map cnv_byte from rfl, sumL_map (h := cnv_Item) cnv_Item_c (gl x 7), sumL_map (h := cnv_byte) cnv_byte_c (gl x 14), sumL_map (h := cnv_byte) cnv_byte_c (gl x 15)]
theorem cnv_packet_ct (x : V) : ct_packet (cnv_packet x) = ct_packet x := by
  simp only [ct_packet, show gl (cnv_packet x) 7 = (gl x 7).map cnv_Item from rfl, show gl (cnv_packet x) 14 = (gl x 14).map cnv_byte from rfl, show gl (cnv_packet x) 15 = (gl x 15).map cnv_byte from rfl, sumL_map (h := cnv_Item) cnv_Item_c (gl x 7), sumL_map (h := cnv_byte) cnv_byte_c (gl x 14), sumL_map (h := cnv_byte) cnv_byte_c (gl x 15)]
theorem c_packet_cz (x : V) : c_packet x ≤ 18 * (1 + z_packet x) := by
  have h0 : sumL c_Item (gl x 7) ≤ 5 * zS z_Item (gl x 7) := sumL_mul 5 fun y _ => c_Item_cz y
  have h1 : sumL c1 (gl x 14) ≤ 1 * zS z0 (gl x 14) := by rw [sumL_c1, zS_z0]; omega
  have h2 : sumL c1 (gl x 15) ≤ 1 * zS z0 (gl x 15) := by rw [sumL_c1, zS_z0]; omega
  simp only [c_packet, z_packet]; omega
theorem ct_packet_cz (x : V) : ct_packet x ≤ 18 * z_packet x := by
  have h0 : sumL c_Item (gl x 7) ≤ 5 * zS z_Item (gl x 7) := sumL_mul 5 fun y _ => c_Item_cz y
  have h1 : sumL c1 (gl x 14) ≤ 1 * zS z0 (gl x 14) := by rw [sumL_c1, zS_z0]; omega
  have h2 : sumL c1 (gl x 15) ≤ 1 * zS z0 (gl x 15) := by rw [sumL_c1, zS_z0]; omega
  simp only [ct_packet, z_packet]; omega
end Go.Eng.R
open Go Go.Eng
namespace Go.Eng.R
def Ok {α : Type} (P : α → Prop) (o : Option α) : Prop := ∃ x, o = some x ∧ P x
theorem Ok.bind {α β : Type} {P : β → Prop} {Q : α → Prop} {o : Option α} {f : α → Option β} (h : Ok Q o) (g : ∀ x, Q x → Ok P (f x)) : Ok P (Option.bind o f) := by
  obtain ⟨x, rfl, hx⟩ := h
  exact g x hx
theorem Ok.ret {α : Type} {P : α → Prop} {x : α} (h : P x) : Ok P (some x) := ⟨x, rfl, h⟩
theorem Ok.chk {α : Type} {P : α → Prop} {b : Bool} {x : Option α} (h : b = true) (g : Ok P x) : Ok P (bif b then x else none) := by subst h; exact g
theorem Ok.ite {α : Type} {P : α → Prop} {b : Bool} {x y : Option α} (g1 : b = true → Ok P x) (g2 : b = false → Ok P y) : Ok P (bif b then x else y) := by
  cases b with
  | true => exact g1 rfl
  | false => exact g2 rfl
theorem Ok.iteT {α : Type} {P : α → Prop} {b : Bool} {x y : Option α} (h : b = true) (g : Ok P x) : Ok P (bif b then x else y) := by subst h; exact g
theorem Ok.iteF {α : Type} {P : α → Prop} {b : Bool} {x y : Option α} (h : b = false) (g : Ok P y) : Ok P (bif b then x else y) := by subst h; exact g
theorem Ok.mono {α : Type} {P Q : α → Prop} {o : Option α} (h : Ok P o) (g : ∀ x, P x → Q x) : Ok Q o := by
  obtain ⟨x, e, hx⟩ := h
  exact ⟨x, e, g x hx⟩
def Ok2 {α β : Type} (P : α → β → Prop) (o : Option (α × β)) : Prop := ∃ x y, o = some (x, y) ∧ P x y
theorem Ok.bind2 {α β γ : Type} {P : γ → Prop} {Q : α → β → Prop} {o : Option (α × β)} {f : α × β → Option γ} (h : Ok2 Q o) (g : ∀ x y, Q x y → Ok P (f (x, y))) : Ok P (Option.bind o f) := by
  obtain ⟨x, y, rfl, hx⟩ := h
  exact g x y hx
theorem Ok2.of {α β : Type} {Q : α → β → Prop} {o : Option (α × β)} (h : Ok (fun r => Q r.1 r.2) o) : Ok2 Q o := by
  obtain ⟨⟨x, y⟩, e, hx⟩ := h
  exact ⟨x, y, e, hx⟩
theorem Ok2.ok {α β : Type} {Q : α → β → Prop} {o : Option (α × β)} (h : Ok2 Q o) : Ok (fun r => Q r.1 r.2) o := by
  obtain ⟨x, y, e, hx⟩ := h
  exact ⟨(x, y), e, hx⟩
theorem wrI (n : Int) : I64 (IntKind.i64.wrap n) := by unfold I64; rw [IntKind.wrap_i64]; omega
theorem I64.of {n : Int} (h : 0 ≤ n) (h1 : n ≤ 4294967296) : I64 n := ⟨by omega, by omega⟩
theorem LW.snoc {W : V → Prop} {l : List V} {x : V} (h : LW W l) (hl : l.length < 9223372036854775807) (hx : W x) : LW W (l ++ [x]) := by
  refine ⟨by simp; omega, fun y hy => ?_⟩
  rcases List.mem_append.1 hy with hy | hy
  · exact h.2 y hy
  · simp at hy; subst hy; exact hx
theorem LW.set' {W : V → Prop} {l : List V} {x : V} (h : LW W l) (j : Nat) (hx : W x) : LW W (l.set j x) := by
  refine ⟨by simpa using h.1, fun y hy => ?_⟩
  rcases List.mem_or_eq_of_mem_set hy with hy | hy
  · exact h.2 y hy
  · subst hy; exact hx
theorem LW.rep {W : V → Prop} {n : Nat} {x : V} (hn : n ≤ 9223372036854775807) (hx : W x) : LW W (List.replicate n x) :=
  ⟨by simpa using hn, fun y hy => by rw [List.mem_replicate] at hy; rw [hy.2]; exact hx⟩
theorem idx_of {i : Int} {n : Nat} (h0 : 0 ≤ i) (h1 : i < (n : Int)) : idxOk i n = true := by simp [idxOk]; omega
theorem room_of {n b : Nat} (h : n * b ≤ 140737488355328) (h1 : n ≤ 9223372036854775807) : (roomy n b && true) = true := by rw [roomy_of h h1]; rfl
def allI : List V → Prop
  | [] => True
  | x :: l => I64 (gi x 0) ∧ allI l
theorem allI_rd : ∀ {l : List V}, allI l → ∀ j, j < l.length → I64 (gi (rd l j) 0)
  | [], _, j, h => by simp at h
  | x :: l, ⟨h, _⟩, 0, _ => h
  | x :: l, ⟨_, h⟩, j + 1, hj => allI_rd h j (by simpa using hj)
theorem gi_v0 (k : IntKind) (n : Int) : gi (V.int k n) 0 = n := rfl
theorem LW.takeL {W : V → Prop} {l : List V} (h : LW W l) (n : Nat) : LW W (l.take n) := ⟨by have := h.1; rw [List.length_take]; omega, fun x hx => h.2 x (List.mem_of_mem_take hx)⟩
theorem LW.dropL {W : V → Prop} {l : List V} (h : LW W l) (n : Nat) : LW W (l.drop n) := ⟨by have := h.1; rw [List.length_drop]; omega, fun x hx => h.2 x (List.mem_of_mem_drop hx)⟩
theorem W_int.mk {n : Int} (h : I64 n) : W_int (V.int .i64 n) := h
end Go.Eng.R
open Go Go.Eng
namespace Go.Eng.R
theorem bAnd_le (a : Int) {b : Int} (h0 : 0 ≤ b) (h1 : b ≤ 9223372036854775807) : 0 ≤ bAnd .i64 a b ∧ bAnd .i64 a b ≤ b := by
  unfold bAnd
  have e : (BitVec.ofInt (IntKind.bits .i64) b).toNat = b.toNat := by
    rw [BitVec.toNat_ofInt]
    rw [Int.emod_eq_of_lt h0 (by show b < ((2 ^ 64 : Nat) : Int); omega)]
  have h : (BitVec.ofInt (IntKind.bits .i64) a &&& BitVec.ofInt (IntKind.bits .i64) b).toNat ≤ b.toNat := by
    rw [BitVec.toNat_and, e]
    exact Nat.and_le_right
  rw [wr64' (by omega) (by omega)]
  omega
def CurOk (c : V) : Prop := LW W_byte (gl c 0) ∧ 0 ≤ gi c 1 ∧ gi c 1 ≤ (((gl c 0).length : Nat) : Int)
theorem byte_ok {c : V} (h : CurOk c) : ∃ x c', spec_l1Byte (n_spec_l1Cur c) = some (x, c') ∧ CurOk c' ∧ 0 ≤ x ∧ x ≤ 255 ∧ gl c' 0 = gl c 0 := by
  obtain ⟨h1, h2, h3⟩ := h
  have hl := h1.1
  unfold spec_l1Byte
  simp only [show gl (n_spec_l1Cur c) 0 = gl c 0 from rfl, show gi (n_spec_l1Cur c) 1 = gi c 1 from rfl]
  by_cases hc : gi c 1 < (((gl c 0).length : Nat) : Int)
  · rw [decide_eq_true hc, show idxOk (gi c 1) (gl c 0).length = true from by simp [idxOk]; omega]
    simp only [cond_true]
    refine ⟨_, _, rfl, ⟨h1, ?_, ?_⟩, (bAnd_le _ (by decide) (by decide)).1, (bAnd_le _ (by decide) (by decide)).2, rfl⟩
    · show 0 ≤ IntKind.i64.wrap (gi c 1 + 1)
      rw [wr64' (by omega) (by omega)]; omega
    · show IntKind.i64.wrap (gi c 1 + 1) ≤ _
      rw [wr64' (by omega) (by omega)]; show gi c 1 + 1 ≤ (((gl c 0).length : Nat) : Int); omega
  · rw [decide_eq_false hc]
    simp only [cond_false]
    exact ⟨_, _, rfl, ⟨h1, h2, h3⟩, (bAnd_le _ (by decide) (by decide)).1, (bAnd_le _ (by decide) (by decide)).2, rfl⟩
theorem tmod_lt {x n : Int} (hx : 0 ≤ x) (hn : 0 < n) : 0 ≤ x.tmod n ∧ x.tmod n < n := by
  rw [Int.tmod_eq_emod_of_nonneg hx]
  exact ⟨Int.emod_nonneg _ (by omega), Int.emod_lt_of_pos _ hn⟩
theorem below_ok {c : V} (h : CurOk c) {n : Int} (hn : 0 < n) : ∃ x c', spec_l1Below (n_spec_l1Cur c) n = some (x, c') ∧ CurOk c' ∧ 0 ≤ x ∧ x < n := by
  unfold spec_l1Below
  rw [decide_eq_false (p := n ≤ 0) (by omega), decide_eq_false (p := n = 0) (by omega)]
  simp only [cond_false, show n_spec_l1Cur (n_spec_l1Cur c) = n_spec_l1Cur c from rfl]
  obtain ⟨x, c', e, h', x0, x1, -⟩ := byte_ok h
  by_cases h2 : n ≤ 256
  · rw [decide_eq_true h2, e]
    exact ⟨_, _, rfl, h', (tmod_lt x0 hn).1, (tmod_lt x0 hn).2⟩
  · rw [decide_eq_false h2, e]
    obtain ⟨x2, c2, e2, h2', y0, y1, -⟩ := byte_ok h'
    obtain ⟨x3, c3, e3, h3', z0', z1, -⟩ := byte_ok h2'
    obtain ⟨x4, c4, e4, h4', w0, w1, -⟩ := byte_ok h3'
    simp only [Option.bind_some, e2, e3, e4, cond_false, Bool.not_false, cond_true]
    have hs : IntKind.i64.wrap (IntKind.i64.wrap (IntKind.i64.wrap (IntKind.i64.wrap (x * 16777216) + IntKind.i64.wrap (x2 * 65536)) + IntKind.i64.wrap (x3 * 256)) + x4) = x * 16777216 + x2 * 65536 + x3 * 256 + x4 := by
      rw [wr64' (n := x * 16777216) (by omega) (by omega), wr64' (n := x2 * 65536) (by omega) (by omega), wr64' (n := x3 * 256) (by omega) (by omega), wr64' (n := x * 16777216 + x2 * 65536) (by omega) (by omega), wr64' (n := x * 16777216 + x2 * 65536 + x3 * 256) (by omega) (by omega), wr64' (by omega) (by omega)]
    rw [hs]
    have hm := tmod_lt (x := x * 16777216 + x2 * 65536 + x3 * 256 + x4) (by omega) hn
    exact ⟨_, _, rfl, h4', hm.1, hm.2⟩
theorem once_ok {c : V} (h : CurOk c) {n : Int} (hn : 0 < n) : ∃ b c', spec_l1Once (n_spec_l1Cur c) n = some (b, c') ∧ CurOk c' := by
  obtain ⟨x, c', e, h', -, -⟩ := below_ok h hn
  unfold spec_l1Once
  rw [show n_spec_l1Cur (n_spec_l1Cur c) = n_spec_l1Cur c from rfl, e]
  exact ⟨_, _, rfl, h'⟩
theorem pick_ok {c : V} (h : CurOk c) {l : List V} (hl : 0 < l.length) : ∃ j c', spec_l1PickInt (n_spec_l1Cur c) l = some (gi (rd l j) 0, c') ∧ CurOk c' ∧ j < l.length := by
  obtain ⟨x, c', e, h', x0, x1⟩ := below_ok h (n := ((l.length : Nat) : Int)) (by omega)
  unfold spec_l1PickInt
  rw [show n_spec_l1Cur (n_spec_l1Cur c) = n_spec_l1Cur c from rfl, e]
  simp only [Option.bind_some]
  rw [show idxOk x l.length = true from by simp [idxOk]; omega]
  exact ⟨x.toNat, _, rfl, h', by omega⟩
theorem new_ok {code : List V} (h : LW W_byte code) : ∃ c, spec_l1New code = some c ∧ CurOk c := by
  unfold spec_l1New
  rw [fuel_eq]
  have key := loop_run0 (F := fun m s i => spec_l1New_l3 m code s i) (n := code.length) (I := fun _ _ => True) (Q := fun r => ∃ s, r = some (code, s)) ?_ ?_ (s := IntKind.i64.wrap (36565 + ((code.length : Nat) : Int))) trivial
  · obtain ⟨s, e⟩ := key
    refine ⟨_, congrArg (fun o => Option.bind o _) e, h, by show (0 : Int) ≤ 0; decide, by show (0 : Int) ≤ ((code.length : Nat) : Int); omega⟩
  · intro m i s hi _
    simp only [spec_l1New_l3, lt_nat hi, idxOk_nat hi, cond_true, wr_succ hi h.1]
    by_cases h4 : (i : Int) < 4000
    · rw [decide_eq_true h4]; exact .inl ⟨_, rfl, trivial⟩
    · rw [decide_eq_false h4]; exact .inr ⟨_, rfl⟩
  · intro m s _
    simp only [spec_l1New_l3, lt_self, cond_false]
    exact ⟨_, rfl⟩
theorem byte_O {c : V} (h : CurOk c) : Ok (fun r => CurOk r.2 ∧ 0 ≤ r.1 ∧ r.1 ≤ 255) (spec_l1Byte (n_spec_l1Cur c)) := by
  obtain ⟨x, c', e, h1, h2, h3, -⟩ := byte_ok h
  exact ⟨_, e, h1, h2, h3⟩
theorem tmod_O {x n : Int} (h0 : 0 ≤ x) (h1 : 0 < n) : 0 ≤ x.tmod n ∧ x.tmod n ≤ x ∧ x.tmod n < n := by
  have := tmod_lt h0 h1
  refine ⟨this.1, ?_, this.2⟩
  rw [Int.tmod_eq_emod_of_nonneg h0]
  have h2 := Int.mul_ediv_add_emod x n
  have h3 : 0 ≤ n * (x / n) := Int.mul_nonneg (by omega) (Int.ediv_nonneg h0 (by omega))
  omega
theorem below_O {c : V} (h : CurOk c) (n : Int) : Ok (fun r => CurOk r.2 ∧ 0 ≤ r.1 ∧ r.1 ≤ 4294967295 ∧ (r.1 < n ∨ r.1 = 0)) (spec_l1Below (n_spec_l1Cur c) n) := by
  by_cases hn : 0 < n
  · unfold spec_l1Below
    rw [decide_eq_false (p := n ≤ 0) (by omega), decide_eq_false (p := n = 0) (by omega)]
    simp only [cond_false, show n_spec_l1Cur (n_spec_l1Cur c) = n_spec_l1Cur c from rfl]
    obtain ⟨x, c', e, h', x0, x1, -⟩ := byte_ok h
    by_cases h2 : n ≤ 256
    · rw [decide_eq_true h2, e]
      obtain ⟨m0, m1, m2⟩ := tmod_O x0 hn
      exact ⟨_, rfl, h', m0, by show x.tmod n ≤ _; omega, .inl m2⟩
    · rw [decide_eq_false h2, e]
      obtain ⟨x2, c2, e2, h2', y0, y1, -⟩ := byte_ok h'
      obtain ⟨x3, c3, e3, h3', z0', z1, -⟩ := byte_ok h2'
      obtain ⟨x4, c4, e4, h4', w0, w1, -⟩ := byte_ok h3'
      simp only [Option.bind_some, e2, e3, e4, cond_false, Bool.not_false, cond_true]
      have hs : IntKind.i64.wrap (IntKind.i64.wrap (IntKind.i64.wrap (IntKind.i64.wrap (x * 16777216) + IntKind.i64.wrap (x2 * 65536)) + IntKind.i64.wrap (x3 * 256)) + x4) = x * 16777216 + x2 * 65536 + x3 * 256 + x4 := by
        rw [wr64' (n := x * 16777216) (by omega) (by omega), wr64' (n := x2 * 65536) (by omega) (by omega), wr64' (n := x3 * 256) (by omega) (by omega), wr64' (n := x * 16777216 + x2 * 65536) (by omega) (by omega), wr64' (n := x * 16777216 + x2 * 65536 + x3 * 256) (by omega) (by omega), wr64' (by omega) (by omega)]
      rw [hs]
      obtain ⟨m0, m1, m2⟩ := tmod_O (x := x * 16777216 + x2 * 65536 + x3 * 256 + x4) (by omega) hn
      exact ⟨_, rfl, h4', m0, by show Int.tmod _ n ≤ _; omega, .inl m2⟩
  · unfold spec_l1Below
    rw [decide_eq_true (p := n ≤ 0) (by omega)]
    exact ⟨_, rfl, h, by show (0 : Int) ≤ 0; omega, by show (0 : Int) ≤ 4294967295; omega, .inr rfl⟩
theorem once_O {c : V} (h : CurOk c) (n : Int) : Ok (fun r => CurOk r.2) (spec_l1Once (n_spec_l1Cur c) n) := by
  obtain ⟨x, e, h', -⟩ := below_O h n
  unfold spec_l1Once
  rw [show n_spec_l1Cur (n_spec_l1Cur c) = n_spec_l1Cur c from rfl, e]
  exact ⟨_, rfl, h'⟩
theorem pick_O {c : V} (h : CurOk c) {l : List V} (hl : 0 < l.length) (ha : allI l) : Ok (fun r => CurOk r.2 ∧ I64 r.1) (spec_l1PickInt (n_spec_l1Cur c) l) := by
  obtain ⟨j, c', e, h1, h2⟩ := pick_ok h hl
  exact ⟨_, e, h1, allI_rd ha j h2⟩
theorem new_O {code : List V} (h : LW W_byte code) : Ok CurOk (spec_l1New code) := by
  obtain ⟨c, e, h1⟩ := new_ok h
  exact ⟨_, e, h1⟩
theorem nn_cur (c : V) : n_spec_l1Cur (n_spec_l1Cur c) = n_spec_l1Cur c := rfl
theorem below_P {c : V} (h : CurOk c) (n : Int) : Ok2 (fun x c => CurOk c ∧ 0 ≤ x ∧ x ≤ 4294967295 ∧ (x < n ∨ x = 0)) (spec_l1Below (n_spec_l1Cur c) n) := .of (below_O h n)
theorem once_P {c : V} (h : CurOk c) (n : Int) : Ok2 (fun (x : Bool) c => CurOk c) (spec_l1Once (n_spec_l1Cur c) n) := .of (once_O h n)
theorem pick_P {c : V} (h : CurOk c) {l : List V} (hl : 0 < l.length) (ha : allI l) : Ok2 (fun x c => CurOk c ∧ I64 x) (spec_l1PickInt (n_spec_l1Cur c) l) := .of (pick_O h hl ha)
end Go.Eng.R
open Go Go.Eng
namespace Go.Eng.R
def memB (m : V) : Bool := decide (0 ≤ gi m 0 ∧ gi m 0 ≤ 11 ∧ 0 ≤ gi m 1 ∧ gi m 1 ≤ 3 ∧ 0 ≤ gi m 2 ∧ gi m 2 ≤ 1000)
theorem within_T (n lo hi : Int) : impl_within n lo hi = decide (lo ≤ n ∧ n ≤ hi) := by
  unfold impl_within
  by_cases h1 : lo ≤ n <;> simp [h1]
theorem spec_mem_eq (m : V) : spec_MemberOk m = memB m := by
  unfold spec_MemberOk memB
  rw [Bool.eq_iff_iff]
  by_cases h1 : 0 ≤ gi m 0 <;> by_cases h2 : gi m 0 < 12 <;> by_cases h3 : 0 ≤ gi m 1 <;> by_cases h4 : gi m 1 ≤ 3 <;> by_cases h5 : 0 ≤ gi m 2 <;> simp [h1, h2, h3, h4, h5] <;> omega
theorem impl_mem_eq (m : V) : impl_MemberOk m = memB m := by
  unfold impl_MemberOk memB
  simp only [within_T]
  rw [Bool.eq_iff_iff]
  by_cases h1 : 0 ≤ gi m 0 ∧ gi m 0 ≤ 11 <;> by_cases h2 : 0 ≤ gi m 1 ∧ gi m 1 ≤ 3 <;> simp [h1, h2] <;> omega
def AscI (l : List V) : Prop := ∀ i, i + 1 < l.length → gi (rd l i) 0 < gi (rd l (i + 1)) 0
def lbI (l : List V) (id : Int) : Nat := (l.takeWhile (fun x => decide (gi x 0 < id))).length
def hasI (l : List V) (id : Int) : Bool := decide (lbI l id < l.length) && decide (gi (rd l (lbI l id)) 0 = id)
theorem lbI_le (l : List V) (id : Int) : lbI l id ≤ l.length := (List.takeWhile_prefix _).sublist.length_le
theorem AscI.tail {x : V} {l : List V} (h : AscI (x :: l)) : AscI l := fun i hi => h (i + 1) (by simpa using hi)
theorem AscI.lt {l : List V} (h : AscI l) : ∀ (j i : Nat), i < j → j < l.length → gi (rd l i) 0 < gi (rd l j) 0
  | 0, i, hi, _ => by omega
  | j + 1, i, hi, hj => by
    have h1 := h j hj
    rcases Nat.lt_or_ge i j with c | c
    · have := AscI.lt h j i c (by omega); omega
    · obtain rfl : i = j := by omega
      exact h1
theorem lbI_spec : ∀ {l : List V}, AscI l → ∀ (id : Int) (i : Nat), i < l.length → decide (gi (rd l i) 0 < id) = decide (i < lbI l id)
  | [], _, _, i, hi => by simp at hi
  | x :: l, h, id, i, hi => by
    unfold lbI
    by_cases hx : gi x 0 < id
    · rw [List.takeWhile_cons, if_pos (by simpa using hx), List.length_cons]
      cases i with
      | zero => rw [decide_eq_true (p := gi (rd (x :: l) 0) 0 < id) hx, decide_eq_true (by omega)]
      | succ i =>
        have := lbI_spec h.tail id i (by simpa using hi)
        unfold lbI at this
        rw [show rd (x :: l) (i + 1) = rd l i from rfl, this]
        congr 1
        exact propext ⟨fun c => by omega, fun c => by omega⟩
    · rw [List.takeWhile_cons, if_neg (by simpa using hx)]
      have h0 : ¬ gi (rd (x :: l) i) 0 < id := by
        cases i with
        | zero => exact hx
        | succ i => have := h.lt (i + 1) 0 (by omega) hi; intro c; exact hx (Int.lt_trans this c)
      rw [decide_eq_false h0, decide_eq_false (by simp)]
theorem lbI_at {l : List V} (h : AscI l) {id : Int} {k : Nat} (hk : k < l.length) (e : gi (rd l k) 0 = id) : lbI l id = k := by
  have h1 := lbI_spec h id k hk
  rw [e, decide_eq_false (Int.lt_irrefl _)] at h1
  have h1 : ¬ k < lbI l id := of_decide_eq_false h1.symm
  rcases Nat.lt_or_ge (lbI l id) k with c | c
  · have h2 := lbI_spec h id (lbI l id) (by omega)
    rw [decide_eq_true (p := gi (rd l (lbI l id)) 0 < id) (by have := h.lt k _ c hk; omega), decide_eq_false (Nat.lt_irrefl _)] at h2
    cases h2
  · omega
theorem hasI_iff {l : List V} (h : AscI l) (id : Int) : hasI l id = true ↔ ∃ k, k < l.length ∧ gi (rd l k) 0 = id := by
  unfold hasI
  rw [Bool.and_eq_true, decide_eq_true_eq, decide_eq_true_eq]
  constructor
  · intro c; exact ⟨_, c.1, c.2⟩
  · rintro ⟨k, hk, e⟩
    rw [lbI_at h hk e]
    exact ⟨hk, e⟩
theorem compare_T (m : V) (id : Int) : decide (impl_Table_member_1 m id < 0) = decide (gi m 0 < id) := by
  unfold impl_Table_member_1 cmp_Compare_int cmp_isNaN_int
  by_cases h1 : gi m 0 < id <;> by_cases h2 : id < gi m 0 <;> simp [h1, h2]
theorem compare_T0 (m : V) (id : Int) : decide (impl_Table_member_1 m id = 0) = decide (gi m 0 = id) := by
  unfold impl_Table_member_1 cmp_Compare_int cmp_isNaN_int
  by_cases h1 : gi m 0 < id
  · simp [h1]; omega
  · by_cases h2 : id < gi m 0
    · simp [h1, h2]; omega
    · simp [h1, h2]; omega
theorem member_eq {t : V} (hS : (gl t 1).length ≤ 4194304) (ha : AscI (gl t 1)) (id : Int) : impl_Table_member (n_impl_Table t) id = some (((lbI (gl t 1) id : Nat) : Int), hasI (gl t 1) id) := by
  unfold impl_Table_member slices_BinarySearchFunc_int
  have hle := lbI_le (gl t 1) id
  rw [show gl (n_impl_Table t) 1 = gl t 1 from rfl]
  generalize gl t 1 = S at *
  rw [fuel_eq, show (0 : Int) = ((0 : Nat) : Int) from rfl, bs_loop (F := fun m i j => slices_BinarySearchFunc_int_l3 m S id ((S.length : Nat) : Int) i j) (x := S) (p := fun x => decide (gi x 0 < id)) (n0 := lbI S id) (out := fun i => some (S, id, ((S.length : Nat) : Int), i)) (by omega) (fun i hi => lbI_spec ha id i hi) ?_ ?_ (S.length + 1) 0 S.length (by omega) hle (by omega) (by omega)]
  · simp only [Option.bind_some]
    unfold hasI
    by_cases hc : lbI S id < S.length
    · rw [lt_nat hc, cond_true, idxOk_nat hc, cond_true, Int.toNat_natCast, decide_eq_true hc, Bool.true_and]
      simp only [Option.bind_some]
      rw [show (((0 : Nat) : Int)) = 0 from rfl, compare_T0]
      rfl
    · rw [decide_eq_false (p := ((lbI S id : Nat) : Int) < ((S.length : Nat) : Int)) (by omega), decide_eq_false hc]
      rfl
  · intro m i j hij hj
    have hw := wr_mid (i := i) (j := j) (by omega)
    simp only [slices_BinarySearchFunc_int_l3, hw]
    rw [lt_nat hij, cond_true, idxOk_nat (show (i + j) / 2 < S.length by omega), cond_true, Int.toNat_natCast, wr_succ (n := S.length) (show (i + j) / 2 < S.length by omega) (by omega), compare_T]
    rfl
  · intro m i; simp only [slices_BinarySearchFunc_int_l3, lt_self, cond_false]
theorem find_eq {t : V} (hl : (gl t 1).length ≤ 9223372036854775807) (ha : AscI (gl t 1)) (id : Int) : spec_l10find (n_impl_Table t) id = some (bif hasI (gl t 1) id then ((lbI (gl t 1) id : Nat) : Int) else -1) := by
  unfold spec_l10find
  simp only [show gl (n_impl_Table t) 1 = gl t 1 from rfl, show n_impl_Table (n_impl_Table t) = n_impl_Table t from rfl, fuel_eq]
  rw [show (0 : Int) = ((0 : Nat) : Int) from rfl, find_loop (F := fun m i => spec_l10find_l2 m id i (n_impl_Table t)) (n := (gl t 1).length) (q := fun i => decide (gi (rd (gl t 1) i) 0 = id)) (out := fun j => some (0, j)) (no := some (1, 0)) ?_ ?_ ((gl t 1).length + 1) 0 (by omega) (by omega)]
  · rw [Nat.sub_zero]
    cases hf : firstI (fun i => decide (gi (rd (gl t 1) i) 0 = id)) 0 (gl t 1).length with
    | none =>
      rw [firstI_none] at hf
      have : hasI (gl t 1) id = false := by
        rw [Bool.eq_false_iff]
        intro c
        obtain ⟨k, hk, e⟩ := (hasI_iff ha id).1 c
        have := hf k (by omega) (by omega)
        rw [decide_eq_true e] at this
        cases this
      rw [this]; rfl
    | some k =>
      obtain ⟨-, h1, h2, -⟩ := firstI_some hf
      have e : gi (rd (gl t 1) k) 0 = id := by simpa using h2
      rw [(hasI_iff ha id).2 ⟨k, by omega, e⟩, lbI_at ha (by omega) e]; rfl
  · intro m i hi
    simp only [spec_l10find_l2, show gl (n_impl_Table t) 1 = gl t 1 from rfl, show n_impl_Table (n_impl_Table t) = n_impl_Table t from rfl, lt_nat hi, idxOk_nat hi, Int.toNat_natCast, cond_true, wr_succ hi hl]
  · intro m; simp only [spec_l10find_l2, show gl (n_impl_Table t) 1 = gl t 1 from rfl, lt_self, cond_false]
def rowB (l : List V) (i : Nat) : Bool := memB (rd l i) && (decide (i = 0) || decide (gi (rd l (i - 1)) 0 < gi (rd l i) 0))
def rowsB (l : List V) : Bool := (List.range l.length).all (rowB l)
theorem rowsB_asc {l : List V} (h : rowsB l = true) : AscI l := fun i hi => by
  have := List.all_eq_true.1 h (i + 1) (List.mem_range.2 hi)
  simp only [rowB, Bool.and_eq_true, Nat.add_sub_cancel] at this
  simpa using this.2
theorem rowsB_mem {l : List V} (h : rowsB l = true) {i : Nat} (hi : i < l.length) : memB (rd l i) = true := by
  have := List.all_eq_true.1 h i (List.mem_range.2 hi)
  simp only [rowB, Bool.and_eq_true] at this
  exact this.1
theorem rowsB_of {l : List V} (h1 : ∀ i, i < l.length → memB (rd l i) = true) (h2 : AscI l) : rowsB l = true := by
  unfold rowsB
  rw [List.all_eq_true]
  intro i hi
  rw [List.mem_range] at hi
  simp only [rowB, h1 i hi, Bool.true_and]
  cases i with
  | zero => rfl
  | succ j => rw [Nat.add_sub_cancel, decide_eq_true (h2 j hi)]; simp
def selfB (m : V) : Bool := decide (gi m 1 = 0) || (decide (gi m 1 = 3) || decide (gi m 2 = 1000))
def tableB (t : V) : Bool := decide ((gl t 1).length ≤ 12) && (rowsB (gl t 1) && (hasI (gl t 1) (gi t 0) && selfB (rd (gl t 1) (lbI (gl t 1) (gi t 0)))))
theorem spec_rows {t : V} (hl : (gl t 1).length ≤ 12) : spec_TableOk_l4 ((gl t 1).length + 1) 0 (n_impl_Table t) = bif rowsB (gl t 1) then some (1, false, n_impl_Table t) else some (0, false, n_impl_Table t) := by
  refine all_loopI (F := fun m i => spec_TableOk_l4 m i (n_impl_Table t)) (fun m i hi => ?_) (fun m => ?_)
  · simp only [spec_TableOk_l4, show gl (n_impl_Table t) 1 = gl t 1 from rfl, show n_impl_Table (n_impl_Table t) = n_impl_Table t from rfl, lt_nat hi, idxOk_nat hi, Int.toNat_natCast, cond_true, spec_mem_eq, wr_succ hi (show (gl t 1).length ≤ 9223372036854775807 by omega), rowB]
    rw [show memB (n_impl_Member (rd (gl t 1) i)) = memB (rd (gl t 1) i) from rfl]
    cases memB (rd (gl t 1) i) with
    | false => rfl
    | true =>
      cases i with
      | zero => rfl
      | succ j =>
        have hj : j < (gl t 1).length := by omega
        have ew : IntKind.i64.wrap (((j + 1 : Nat) : Int) - 1) = ((j : Nat) : Int) := by rw [wr64' (by omega) (by omega)]; omega
        rw [show decide ((0 : Int) < ((j + 1 : Nat) : Int)) = true from decide_eq_true (by omega), cond_true, ew, idxOk_nat hj, cond_true, Int.toNat_natCast, show decide (j + 1 = 0) = false from by simp, Bool.false_or, Nat.add_sub_cancel]
        by_cases h2 : gi (rd (gl t 1) j) 0 < gi (rd (gl t 1) (j + 1)) 0
        · rw [decide_eq_false (p := gi (rd (gl t 1) (j + 1)) 0 ≤ gi (rd (gl t 1) j) 0) (by omega), decide_eq_true h2]; rfl
        · rw [decide_eq_true (p := gi (rd (gl t 1) (j + 1)) 0 ≤ gi (rd (gl t 1) j) 0) (by omega), decide_eq_false h2]; rfl
  · simp only [spec_TableOk_l4, show gl (n_impl_Table t) 1 = gl t 1 from rfl, lt_self, cond_false]; rfl
theorem impl_rows {t : V} (hl : (gl t 1).length ≤ 12) : impl_TableOk_l4 ((gl t 1).length + 1) (gl t 1) ((gl t 1).length : Int) 0 (n_impl_Table t) = bif rowsB (gl t 1) then some (1, false, n_impl_Table t) else some (0, false, n_impl_Table t) := by
  refine all_loopI (F := fun m i => impl_TableOk_l4 m (gl t 1) ((gl t 1).length : Int) i (n_impl_Table t)) (fun m i hi => ?_) (fun m => ?_)
  · simp only [impl_TableOk_l4, show gl (n_impl_Table t) 1 = gl t 1 from rfl, show n_impl_Table (n_impl_Table t) = n_impl_Table t from rfl, lt_nat hi, idxOk_nat hi, Int.toNat_natCast, cond_true, impl_mem_eq, wr_succ hi (show (gl t 1).length ≤ 9223372036854775807 by omega), rowB]
    rw [show memB (n_impl_Member (rd (gl t 1) i)) = memB (rd (gl t 1) i) from rfl]
    cases memB (rd (gl t 1) i) with
    | false => rfl
    | true =>
      cases i with
      | zero => rfl
      | succ j =>
        have hj : j < (gl t 1).length := by omega
        have ew : IntKind.i64.wrap (((j + 1 : Nat) : Int) - 1) = ((j : Nat) : Int) := by rw [wr64' (by omega) (by omega)]; omega
        rw [show decide ((0 : Int) < ((j + 1 : Nat) : Int)) = true from decide_eq_true (by omega), cond_true, ew, idxOk_nat hj, cond_true, Int.toNat_natCast, show decide (j + 1 = 0) = false from by simp, Bool.false_or, Nat.add_sub_cancel]
        by_cases h2 : gi (rd (gl t 1) j) 0 < gi (rd (gl t 1) (j + 1)) 0
        · rw [decide_eq_false (p := gi (rd (gl t 1) (j + 1)) 0 ≤ gi (rd (gl t 1) j) 0) (by omega), decide_eq_true h2]; rfl
        · rw [decide_eq_true (p := gi (rd (gl t 1) (j + 1)) 0 ≤ gi (rd (gl t 1) j) 0) (by omega), decide_eq_false h2]; rfl
  · simp only [impl_TableOk_l4, show gl (n_impl_Table t) 1 = gl t 1 from rfl, lt_self, cond_false]; rfl
theorem selfE {m : V} (x : Option Bool) : (bif decide (gi m 1 = 0) then some true else bif decide (gi m 1 = 3) then some true else some (decide (gi m 2 = 1000))) = some (selfB m) := by
  unfold selfB
  cases decide (gi m 1 = 0) <;> cases decide (gi m 1 = 3) <;> rfl
theorem spec_table_eq (t : V) : spec_TableOk (n_impl_Table t) = some (tableB t) := by
  unfold spec_TableOk tableB
  simp only [show gl (n_impl_Table t) 1 = gl t 1 from rfl, show n_impl_Table (n_impl_Table t) = n_impl_Table t from rfl, fuel_eq]
  by_cases h : (gl t 1).length ≤ 12
  · rw [decide_eq_false (p := (12 : Int) < (((gl t 1).length : Nat) : Int)) (by omega), cond_false, spec_rows h, decide_eq_true h, Bool.true_and]
    cases hr : rowsB (gl t 1) with
    | false => rfl
    | true =>
      simp only [cond_true, Option.bind_some, show n_impl_Table (n_impl_Table t) = n_impl_Table t from rfl, show gl (n_impl_Table t) 1 = gl t 1 from rfl, show gi (n_impl_Table t) 0 = gi t 0 from rfl, show Nat.beq 1 0 = false from rfl, cond_false, find_eq (t := t) (by omega) (rowsB_asc hr), Bool.true_and]
      cases hh : hasI (gl t 1) (gi t 0) with
      | false => rfl
      | true =>
        have hk : lbI (gl t 1) (gi t 0) < (gl t 1).length := by unfold hasI at hh; rw [Bool.and_eq_true] at hh; exact of_decide_eq_true hh.1
        simp only [cond_true, idxOk_nat hk, Int.toNat_natCast, Bool.true_and]
        rw [decide_eq_true (p := (0 : Int) ≤ ((lbI (gl t 1) (gi t 0) : Nat) : Int)) (by omega), cond_true]
        exact selfE none
  · rw [decide_eq_true (p := (12 : Int) < (((gl t 1).length : Nat) : Int)) (by omega), decide_eq_false h]; rfl
theorem impl_table_eq (t : V) : impl_TableOk (n_impl_Table t) = some (tableB t) := by
  unfold impl_TableOk tableB
  simp only [show gl (n_impl_Table t) 1 = gl t 1 from rfl, show n_impl_Table (n_impl_Table t) = n_impl_Table t from rfl, fuel_eq]
  by_cases h : (gl t 1).length ≤ 12
  · rw [decide_eq_false (p := (12 : Int) < (((gl t 1).length : Nat) : Int)) (by omega), cond_false, impl_rows h, decide_eq_true h, Bool.true_and]
    cases hr : rowsB (gl t 1) with
    | false => rfl
    | true =>
      simp only [cond_true, Option.bind_some, show n_impl_Table (n_impl_Table t) = n_impl_Table t from rfl, show gl (n_impl_Table t) 1 = gl t 1 from rfl, show gi (n_impl_Table t) 0 = gi t 0 from rfl, show Nat.beq 1 0 = false from rfl, cond_false, member_eq (t := t) (by omega) (rowsB_asc hr), Bool.true_and]
      cases hh : hasI (gl t 1) (gi t 0) with
      | false => rfl
      | true =>
        have hk : lbI (gl t 1) (gi t 0) < (gl t 1).length := by unfold hasI at hh; rw [Bool.and_eq_true] at hh; exact of_decide_eq_true hh.1
        simp only [cond_true, idxOk_nat hk, Int.toNat_natCast, Bool.true_and]
        exact selfE none
  · rw [decide_eq_true (p := (12 : Int) < (((gl t 1).length : Nat) : Int)) (by omega), decide_eq_false h]; rfl
end Go.Eng.R
open Go Go.Eng
namespace Go.Eng.R
def beatB (a b : V) : Bool := decide (gi a 0 = gi b 0) && (decide (gi b 2 < gi a 2) || (decide (gi a 2 = gi b 2) && decide (gi b 1 < gi a 1)))
theorem spec_beat_eq (a b : V) : spec_Beats a b = beatB a b := by
  unfold spec_Beats beatB
  cases decide (gi a 0 = gi b 0) <;> cases decide (gi b 2 < gi a 2) <;> cases decide (gi a 2 = gi b 2) <;> rfl
theorem impl_beat_eq (a b : V) : impl_Beats a b = beatB a b := by
  unfold impl_Beats beatB
  cases decide (gi a 0 = gi b 0) <;> cases decide (gi b 2 < gi a 2) <;> cases decide (gi a 2 = gi b 2) <;> rfl
def hearE (s : Int) (m x : V) : V :=
  if gi m 0 = s ∧ gi m 2 < 1000 ∧ gi x 1 = 0 ∧ gi m 1 ≠ 0 then V.agg [.int .i64 (gi x 0), .int .i64 (gi x 1), .int .i64 (gi m 2 + 1)]
  else if gi m 0 = s ∧ gi m 2 < 1000 ∧ gi x 1 = 3 then V.agg [.int .i64 (gi x 0), .int .i64 (gi x 1), .int .i64 (gi m 2)]
  else n_impl_Member m
def hearT (s : Int) (l : List V) (m : V) : Bool × List V :=
  if hasI l (gi m 0) = true then
    if beatB m (rd l (lbI l (gi m 0))) = true then (true, l.set (lbI l (gi m 0)) (hearE s m (rd l (lbI l (gi m 0))))) else (false, l)
  else (true, l.take (lbI l (gi m 0)) ++ [n_impl_Member m] ++ l.drop (lbI l (gi m 0)))
def tab1 (s : Int) (l : List V) : V := V.agg [.int .i64 s, .inl t_impl_Member l]
theorem hasI_lt {l : List V} {id : Int} (h : hasI l id = true) : lbI l id < l.length ∧ gi (rd l (lbI l id)) 0 = id := by
  unfold hasI at h; rw [Bool.and_eq_true] at h; exact ⟨of_decide_eq_true h.1, of_decide_eq_true h.2⟩
theorem impl_hear_eq {t m : V} (hlen : (gl t 1).length ≤ 12) (ha : AscI (gl t 1)) (hm : memB m = true) :
    impl_Table_hear t m = some ((hearT (gi t 0) (gl t 1) m).1, tab1 (gi t 0) (hearT (gi t 0) (gl t 1) m).2) := by
  have hm' : 0 ≤ gi m 2 ∧ gi m 2 ≤ 1000 := by unfold memB at hm; have := of_decide_eq_true hm; omega
  unfold impl_Table_hear hearT
  rw [member_eq (by omega) ha]
  simp only [Option.bind_some, impl_beat_eq, show beatB (n_impl_Member m) = beatB m from rfl]
  cases hh : hasI (gl t 1) (gi m 0) with
  | false =>
    have hle := lbI_le (gl t 1) (gi m 0)
    simp only [Bool.not_false, cond_true, insV]
    rw [decide_eq_true (p := (0 : Int) ≤ ((lbI (gl t 1) (gi m 0) : Nat) : Int)) (by omega), decide_eq_true (p := ((lbI (gl t 1) (gi m 0) : Nat) : Int) ≤ (((gl t 1).length : Nat) : Int)) (by omega), roomy_of (by omega) (by omega), Int.toNat_natCast]
    rfl
  | true =>
    obtain ⟨hk, he⟩ := hasI_lt hh
    simp only [Bool.not_true, cond_false, idxOk_nat hk, cond_true, Nat.zero_add, Int.toNat_natCast, if_true]
    generalize lbI (gl t 1) (gi m 0) = k at *
    rw [show beatB m (n_impl_Member (rd (gl t 1) k)) = beatB m (rd (gl t 1) k) from rfl]
    cases hb : beatB m (rd (gl t 1) k) with
    | false => rfl
    | true =>
      simp only [Bool.not_true, cond_false, if_true]
      unfold hearE
      have hw : IntKind.i64.wrap (gi m 2 + 1) = gi m 2 + 1 := wr64' (by omega) (by omega)
      rw [hw]
      by_cases h1 : gi m 0 = gi t 0
      · by_cases h2 : gi m 2 < 1000
        · by_cases h3 : gi (rd (gl t 1) k) 1 = 0
          · by_cases h4 : gi m 1 = 0
            · simp only [h1, h2, h3, h4, decide_true, cond_true, Bool.not_true, cond_false, ne_eq, not_true_eq_false, and_false, if_false, show ¬ ((0 : Int) = 3) by decide, decide_false]; rfl
            · simp only [h1, h2, h3, h4, decide_true, decide_false, cond_true, Bool.not_false, ne_eq, not_false_eq_true, and_self, true_and, if_true]; rfl
          · by_cases h4 : gi (rd (gl t 1) k) 1 = 3
            · simp only [h1, h2, h4, decide_true, cond_true, cond_false, ne_eq, and_self, true_and, show ¬ ((3 : Int) = 0) by decide, decide_false, false_and, if_false, if_true]; rfl
            · simp only [h1, h2, h3, h4, decide_true, decide_false, cond_true, cond_false, ne_eq, and_false, false_and, if_false]; rfl
        · simp only [h1, h2, decide_true, decide_false, cond_true, cond_false, false_and, and_false, if_false]; rfl
      · simp only [h1, decide_false, cond_false, false_and, if_false]; rfl
theorem firstI_lb {l : List V} (ha : AscI l) (id : Int) {ρ : Type} (out : Int → ρ) :
    (match firstI (fun i => !decide (gi (rd l i) 0 < id)) 0 l.length with | some j => out (j : Int) | none => out (l.length : Int)) = out ((lbI l id : Nat) : Int) := by
  have hle := lbI_le l id
  cases hf : firstI (fun i => !decide (gi (rd l i) 0 < id)) 0 l.length with
  | none =>
    rw [firstI_none] at hf
    have : lbI l id = l.length := by
      rcases Nat.lt_or_ge (lbI l id) l.length with c | c
      · have h1 := hf _ (Nat.zero_le _) (by omega : lbI l id < 0 + l.length)
        rw [lbI_spec ha id _ c, decide_eq_false (Nat.lt_irrefl _)] at h1
        cases h1
      · omega
    rw [this]
  | some k =>
    obtain ⟨-, h1, h2, h3⟩ := firstI_some hf
    have hk : k < l.length := by omega
    rw [lbI_spec ha id k hk] at h2
    have h2 : ¬ k < lbI l id := by simpa using h2
    have : lbI l id = k := by
      rcases Nat.lt_or_ge (lbI l id) k with c | c
      · have h4 := h3 _ (Nat.zero_le _) c
        rw [lbI_spec ha id _ (by omega), decide_eq_false (Nat.lt_irrefl _)] at h4
        cases h4
      · omega
    rw [this]
theorem spec_say_eq {t m : V} (hlen : (gl t 1).length ≤ 12) (ha : AscI (gl t 1)) (hm : memB m = true) :
    spec_l10say t m = some ((hearT (gi t 0) (gl t 1) m).1, tab1 (gi t 0) (hearT (gi t 0) (gl t 1) m).2) := by
  have hm' : 0 ≤ gi m 2 ∧ gi m 2 ≤ 1000 := by unfold memB at hm; have := of_decide_eq_true hm; omega
  unfold spec_l10say hearT
  rw [find_eq (by omega) ha]
  simp only [Option.bind_some, spec_beat_eq, show beatB (n_impl_Member m) = beatB m from rfl]
  have hle := lbI_le (gl t 1) (gi m 0)
  cases hh : hasI (gl t 1) (gi m 0) with
  | false =>
    have key : spec_l10say_l4 ((gl t 1).length + 1) 0 (V.agg [(V.int .i64 (gi t 0)), (V.sl 2 t_impl_Member 0 none)]) (n_impl_Member m) (gl t 1) = some (((lbI (gl t 1) (gi m 0) : Nat) : Int), V.agg [(V.int .i64 (gi t 0)), (V.sl 2 t_impl_Member 0 none)], n_impl_Member m, gl t 1) := by
      rw [show (0 : Int) = ((0 : Nat) : Int) from rfl, find_loop (F := fun k i => spec_l10say_l4 k i (V.agg [(V.int .i64 (gi t 0)), (V.sl 2 t_impl_Member 0 none)]) (n_impl_Member m) (gl t 1)) (n := (gl t 1).length) (q := fun i => !decide (gi (rd (gl t 1) i) 0 < gi m 0)) (out := fun j => some (j, V.agg [(V.int .i64 (gi t 0)), (V.sl 2 t_impl_Member 0 none)], n_impl_Member m, gl t 1)) (no := some (((gl t 1).length : Nat), V.agg [(V.int .i64 (gi t 0)), (V.sl 2 t_impl_Member 0 none)], n_impl_Member m, gl t 1)) ?_ ?_ ((gl t 1).length + 1) 0 (by omega) (by omega), Nat.sub_zero]
      · exact firstI_lb ha (gi m 0) (fun j => some (j, V.agg [(V.int .i64 (gi t 0)), (V.sl 2 t_impl_Member 0 none)], n_impl_Member m, gl t 1))
      · intro k i hi
        simp only [spec_l10say_l4, lt_nat hi, idxOk_nat hi, Int.toNat_natCast, cond_true, Nat.zero_add, wr_succ hi (show (gl t 1).length ≤ 9223372036854775807 by omega)]
        rw [show gi (n_impl_Member m) 0 = gi m 0 from rfl]
        cases decide (gi (rd (gl t 1) i) 0 < gi m 0) <;> rfl
      · intro k; simp only [spec_l10say_l4, lt_self, cond_false]; rfl
    rw [cond_false, show decide ((-1 : Int) < 0) = true from rfl, cond_true, fuel_eq, key]
    simp only [Option.bind_some, Int.toNat_natCast, Nat.zero_add]
    generalize lbI (gl t 1) (gi m 0) = k at *
    have l1 : ((gl t 1).take k).length = k := by rw [List.length_take]; omega
    have l2 : ((gl t 1).drop k).length = (gl t 1).length - k := List.length_drop
    rw [decide_eq_true (p := (0 : Int) ≤ ((k : Nat) : Int)) (by omega), decide_eq_true (p := ((k : Nat) : Int) ≤ (((gl t 1).length : Nat) : Int)) (by omega), List.length_append, l1, l2, List.length_cons, List.length_nil, roomy_of (n := k) (by omega) (by omega), roomy_of (n := k + 1) (by omega) (by omega), roomy_of (n := k + (0 + 1) + ((gl t 1).length - k)) (by omega) (by omega)]
    rfl
  | true =>
    obtain ⟨hk, he⟩ := hasI_lt hh
    rw [cond_true, decide_eq_false (p := ((lbI (gl t 1) (gi m 0) : Nat) : Int) < 0) (by omega)]
    simp only [cond_false, idxOk_nat hk, cond_true, Nat.zero_add, Int.toNat_natCast, if_true]
    generalize lbI (gl t 1) (gi m 0) = k at *
    rw [show beatB m (n_impl_Member (rd (gl t 1) k)) = beatB m (rd (gl t 1) k) from rfl]
    cases hb : beatB m (rd (gl t 1) k) with
    | false => rfl
    | true =>
      simp only [Bool.not_true, cond_false, if_true]
      unfold hearE
      have hw : IntKind.i64.wrap (gi m 2 + 1) = gi m 2 + 1 := wr64' (by omega) (by omega)
      rw [hw]
      by_cases h1 : gi m 0 = gi t 0
      · by_cases h2 : gi m 2 < 1000
        · by_cases h3 : gi (rd (gl t 1) k) 1 = 0
          · by_cases h4 : gi m 1 = 0
            · simp only [h1, h2, h3, h4, decide_true, cond_true, Bool.not_true, cond_false, ne_eq, not_true_eq_false, and_false, if_false, show ¬ ((0 : Int) = 3) by decide, decide_false]; rfl
            · simp only [h1, h2, h3, h4, decide_true, decide_false, cond_true, Bool.not_false, ne_eq, not_false_eq_true, and_self, true_and, if_true]; rfl
          · by_cases h4 : gi (rd (gl t 1) k) 1 = 3
            · simp only [h1, h2, h4, decide_true, cond_true, cond_false, ne_eq, and_self, true_and, show ¬ ((3 : Int) = 0) by decide, decide_false, false_and, if_false, if_true]; rfl
            · simp only [h1, h2, h3, h4, decide_true, decide_false, cond_true, cond_false, ne_eq, and_false, false_and, if_false]; rfl
        · by_cases h3 : gi (rd (gl t 1) k) 1 = 0 <;> by_cases h5 : gi m 1 = 0 <;> by_cases h4 : gi (rd (gl t 1) k) 1 = 3 <;> simp only [h1, h2, h3, h4, h5, decide_true, decide_false, cond_true, cond_false, Bool.not_true, Bool.not_false, false_and, and_false, if_false, show ¬ ((0 : Int) = 3) by decide, show ¬ ((3 : Int) = 0) by decide] <;> rfl
      · simp only [h1, decide_false, cond_false, false_and, if_false]; rfl
end Go.Eng.R
open Go Go.Eng
namespace Go.Eng.R
theorem beatB_iff (a b : V) : beatB a b = true ↔ gi a 0 = gi b 0 ∧ (gi b 2 < gi a 2 ∨ gi a 2 = gi b 2 ∧ gi b 1 < gi a 1) := by
  unfold beatB; simp
theorem beatB_no (a b : V) : beatB a b = false ↔ ¬ (gi a 0 = gi b 0 ∧ (gi b 2 < gi a 2 ∨ gi a 2 = gi b 2 ∧ gi b 1 < gi a 1)) := by
  rw [← beatB_iff, Bool.not_eq_true]
theorem memB_iff (m : V) : memB m = true ↔ 0 ≤ gi m 0 ∧ gi m 0 ≤ 11 ∧ 0 ≤ gi m 1 ∧ gi m 1 ≤ 3 ∧ 0 ≤ gi m 2 ∧ gi m 2 ≤ 1000 := by unfold memB; simp
theorem selfB_iff (m : V) : selfB m = true ↔ gi m 1 = 0 ∨ gi m 1 = 3 ∨ gi m 2 = 1000 := by unfold selfB; simp
def upd (s : Int) (m x : V) : V := if beatB m x = true then hearE s m x else x
theorem hearE_cases (s : Int) (m x : V) :
    (gi m 0 = s ∧ gi m 2 < 1000 ∧ gi x 1 = 0 ∧ gi m 1 ≠ 0) ∧ gi (hearE s m x) 0 = gi x 0 ∧ gi (hearE s m x) 1 = gi x 1 ∧ gi (hearE s m x) 2 = gi m 2 + 1 ∨
    (gi m 0 = s ∧ gi m 2 < 1000 ∧ gi x 1 = 3) ∧ gi (hearE s m x) 0 = gi x 0 ∧ gi (hearE s m x) 1 = gi x 1 ∧ gi (hearE s m x) 2 = gi m 2 ∨
    (¬ (gi m 0 = s ∧ gi m 2 < 1000 ∧ gi x 1 = 0 ∧ gi m 1 ≠ 0) ∧ ¬ (gi m 0 = s ∧ gi m 2 < 1000 ∧ gi x 1 = 3)) ∧ gi (hearE s m x) 0 = gi m 0 ∧ gi (hearE s m x) 1 = gi m 1 ∧ gi (hearE s m x) 2 = gi m 2 := by
  unfold hearE
  by_cases h1 : gi m 0 = s ∧ gi m 2 < 1000 ∧ gi x 1 = 0 ∧ gi m 1 ≠ 0
  · rw [if_pos h1]; exact .inl ⟨h1, rfl, rfl, rfl⟩
  · rw [if_neg h1]
    by_cases h2 : gi m 0 = s ∧ gi m 2 < 1000 ∧ gi x 1 = 3
    · rw [if_pos h2]; exact .inr (.inl ⟨h2, rfl, rfl, rfl⟩)
    · rw [if_neg h2]; exact .inr (.inr ⟨⟨h1, h2⟩, rfl, rfl, rfl⟩)
theorem upd_all {s : Int} {m x : V} (hm : memB m = true) (hx : memB x = true) :
    gi (upd s m x) 0 = gi x 0 ∧ memB (upd s m x) = true ∧ (gi x 0 = s → selfB x = true → selfB (upd s m x) = true) ∧ (gi x 0 = gi m 0 → beatB m (upd s m x) = false) ∧ beatB x (upd s m x) = false ∧
      (beatB m x = true → ¬ (gi (upd s m x) 1 = gi x 1 ∧ gi (upd s m x) 2 = gi x 2)) := by
  rw [memB_iff] at hm
  rw [memB_iff] at hx
  simp only [memB_iff, selfB_iff, beatB_no]
  unfold upd
  by_cases hb : beatB m x = true
  · rw [if_pos hb]
    rw [beatB_iff] at hb
    simp only [beatB_iff]
    rcases hearE_cases s m x with ⟨c, e0, e1, e2⟩ | ⟨c, e0, e1, e2⟩ | ⟨c, e0, e1, e2⟩
    · rw [e0, e1, e2]; omega
    · rw [e0, e1, e2]; omega
    · rw [e0, e1, e2]; omega
  · rw [if_neg hb]
    have hb' := hb
    rw [beatB_iff] at hb'
    refine ⟨rfl, hx, fun _ h => h, fun _ => hb', by omega, fun h => absurd h hb⟩
theorem rd_set' {l : List V} {k : Nat} (hk : k < l.length) (y : V) (j : Nat) : rd (l.set k y) j = if j = k then y else rd l j := by
  by_cases h : j = k
  · subst h; rw [if_pos rfl]; simp [rd, List.getD, hk]
  · rw [if_neg h]; simp [rd, List.getD, Ne.symm h]
theorem rd_ins {l : List V} {k : Nat} (hk : k ≤ l.length) (y : V) (j : Nat) : rd (l.take k ++ [y] ++ l.drop k) j = if j < k then rd l j else if j = k then y else rd l (j - 1) := by
  have h1 : (l.take k).length = k := by rw [List.length_take]; omega
  unfold rd
  simp only [List.getD]
  rw [List.append_assoc, List.getElem?_append, h1]
  by_cases h : j < k
  · rw [if_pos h, if_pos h, List.getElem?_take_of_lt h]
  · rw [if_neg h, if_neg h]
    by_cases h2 : j = k
    · subst h2; rw [if_pos rfl, Nat.sub_self]; rfl
    · rw [if_neg h2, List.getElem?_append, if_neg (by simp; omega), List.getElem?_drop]
      congr 2
      simp
      omega
theorem AscI.ge {l : List V} (h : AscI l) (h0 : ∀ i, i < l.length → 0 ≤ gi (rd l i) 0) : ∀ i, i < l.length → (i : Int) ≤ gi (rd l i) 0
  | 0, hi => by have := h0 0 hi; simpa using this
  | i + 1, hi => by
    have h1 := AscI.ge h h0 i (by omega)
    have h2 := h i hi
    omega
theorem rowsB_len {l : List V} (h : rowsB l = true) : l.length ≤ 12 := by
  rcases Nat.lt_or_ge 12 l.length with c | c
  · have h1 := (rowsB_asc h).ge (fun i hi => ((memB_iff _).1 (rowsB_mem h hi)).1) 12 c
    have h2 := ((memB_iff _).1 (rowsB_mem h c)).2.1
    omega
  · exact c
theorem hear_keeps (s : Int) {l : List V} {m : V} (hr : rowsB l = true) (hm : memB m = true) :
    rowsB (hearT s l m).2 = true ∧ (∀ i, i < l.length → ∃ j, j < (hearT s l m).2.length ∧ rd (hearT s l m).2 j = upd s m (rd l i)) ∧ (∃ j, j < (hearT s l m).2.length ∧ gi (rd (hearT s l m).2 j) 0 = gi m 0 ∧ beatB m (rd (hearT s l m).2 j) = false) := by
  have ha := rowsB_asc hr
  have hme := fun i (hi : i < l.length) => rowsB_mem hr hi
  unfold hearT
  by_cases hh : hasI l (gi m 0) = true
  · rw [if_pos hh]
    obtain ⟨hk, he⟩ := hasI_lt hh
    generalize lbI l (gi m 0) = k at *
    have other : ∀ i, i < l.length → i ≠ k → upd s m (rd l i) = rd l i := fun i hi hik => by
      unfold upd
      rw [if_neg]
      rw [beatB_iff]
      rintro ⟨c, -⟩
      rcases Nat.lt_or_ge i k with d | d
      · have := ha.lt k i d hk; omega
      · have := ha.lt i k (by omega) hi; omega
    have hu := upd_all (s := s) hm (hme k hk)
    by_cases hb : beatB m (rd l k) = true
    · rw [if_pos hb]
      have eu : hearE s m (rd l k) = upd s m (rd l k) := by unfold upd; rw [if_pos hb]
      rw [eu]
      refine ⟨rowsB_of (fun i hi => ?_) (fun i hi => ?_), fun i hi => ⟨i, by simpa using hi, ?_⟩, k, by simpa using hk, ?_, ?_⟩
      · rw [List.length_set] at hi
        rw [rd_set' hk]
        by_cases c : i = k
        · rw [if_pos c]; exact hu.2.1
        · rw [if_neg c]; exact hme i hi
      · rw [List.length_set] at hi
        have hid : ∀ j, gi (rd (l.set k (upd s m (rd l k))) j) 0 = gi (rd l j) 0 := fun j => by
          rw [rd_set' hk]
          by_cases c : j = k
          · subst c; rw [if_pos rfl]; exact hu.1
          · rw [if_neg c]
        rw [hid, hid]
        exact ha i hi
      · rw [rd_set' hk]
        by_cases c : i = k
        · subst c; rw [if_pos rfl]
        · rw [if_neg c, other i hi c]
      · rw [rd_set' hk, if_pos rfl, hu.1]; exact he
      · rw [rd_set' hk, if_pos rfl]; exact hu.2.2.2.1 he
    · rw [if_neg hb]
      refine ⟨hr, fun i hi => ⟨i, hi, ?_⟩, k, hk, he, by simpa using hb⟩
      by_cases c : i = k
      · subst c; unfold upd; rw [if_neg hb]
      · rw [other i hi c]
  · rw [if_neg hh]
    have hle := lbI_le l (gi m 0)
    have hlt : ∀ i, i < l.length → (i < lbI l (gi m 0) ↔ gi (rd l i) 0 < gi m 0) := fun i hi => by
      have := lbI_spec ha (gi m 0) i hi
      constructor
      · intro c; rw [decide_eq_true c] at this; exact of_decide_eq_true this
      · intro c; rw [decide_eq_true c] at this; exact of_decide_eq_true this.symm
    have hne : ∀ i, i < l.length → gi (rd l i) 0 ≠ gi m 0 := fun i hi c => hh ((hasI_iff ha _).2 ⟨i, hi, c⟩)
    generalize lbI l (gi m 0) = k at *
    have hlen : (l.take k ++ [n_impl_Member m] ++ l.drop k).length = l.length + 1 := by simp; omega
    dsimp only
    refine ⟨rowsB_of (fun i hi => ?_) (fun i hi => ?_), fun i hi => ?_, k, by omega, ?_, ?_⟩
    · rw [hlen] at hi
      rw [rd_ins hle]
      by_cases c : i < k
      · rw [if_pos c]; exact hme i (by omega)
      · rw [if_neg c]
        by_cases d : i = k
        · rw [if_pos d]; exact hm
        · rw [if_neg d]; exact hme (i - 1) (by omega)
    · rw [hlen] at hi
      rw [rd_ins hle, rd_ins hle]
      by_cases c : i + 1 < k
      · rw [if_pos (by omega), if_pos c]; exact ha i (by omega)
      · by_cases d : i + 1 = k
        · rw [if_pos (by omega), if_neg c, if_pos d]; exact (hlt i (by omega)).1 (by omega)
        · by_cases e : i = k
          · rw [if_neg (by omega), if_pos e, if_neg c, if_neg d]
            show gi m 0 < gi (rd l (i + 1 - 1)) 0
            have h1 := hlt (i + 1 - 1) (by omega)
            have h2 := hne (i + 1 - 1) (by omega)
            omega
          · rw [if_neg (by omega), if_neg e, if_neg c, if_neg d, show i + 1 - 1 = (i - 1) + 1 by omega]
            exact ha (i - 1) (by omega)
    · have hu : upd s m (rd l i) = rd l i := by
        unfold upd
        rw [if_neg]
        rw [beatB_iff]
        rintro ⟨c, -⟩
        exact hne i hi c.symm
      rw [hu]
      by_cases c : i < k
      · exact ⟨i, by omega, by rw [rd_ins hle, if_pos c]⟩
      · exact ⟨i + 1, by omega, by rw [rd_ins hle, if_neg (by omega), if_neg (by omega), Nat.add_sub_cancel]⟩
    · rw [rd_ins hle, if_neg (Nat.lt_irrefl _), if_pos rfl]; rfl
    · rw [rd_ins hle, if_neg (Nat.lt_irrefl _), if_pos rfl, beatB_no]
      show ¬ (gi m 0 = gi m 0 ∧ (gi m 2 < gi m 2 ∨ gi m 2 = gi m 2 ∧ gi m 1 < gi m 1))
      omega
theorem hear_table {t m : V} (ht : tableB t = true) (hm : memB m = true) : tableB (tab1 (gi t 0) (hearT (gi t 0) (gl t 1) m).2) = true := by
  unfold tableB at ht
  simp only [Bool.and_eq_true] at ht
  obtain ⟨-, hr, hh, hs⟩ := ht
  obtain ⟨k1, k2, -⟩ := hear_keeps (gi t 0) hr hm
  obtain ⟨hk, he⟩ := hasI_lt hh
  obtain ⟨j, hj, e⟩ := k2 _ hk
  have hu := upd_all (s := gi t 0) hm (rowsB_mem hr hk)
  have hid : gi (rd (hearT (gi t 0) (gl t 1) m).2 j) 0 = gi t 0 := by rw [e, hu.1, he]
  unfold tableB
  show (decide ((hearT (gi t 0) (gl t 1) m).2.length ≤ 12) && (rowsB (hearT (gi t 0) (gl t 1) m).2 && (hasI (hearT (gi t 0) (gl t 1) m).2 (gi t 0) && selfB (rd (hearT (gi t 0) (gl t 1) m).2 (lbI (hearT (gi t 0) (gl t 1) m).2 (gi t 0)))))) = true
  rw [decide_eq_true (rowsB_len k1), k1, (hasI_iff (rowsB_asc k1) _).2 ⟨j, hj, hid⟩, lbI_at (rowsB_asc k1) hj hid, e, hu.2.2.1 he hs]
  rfl
end Go.Eng.R
open Go Go.Eng
namespace Go.Eng.R
theorem tableB_of {s : Int} {l : List V} (hr : rowsB l = true) {j : Nat} (hj : j < l.length) (hid : gi (rd l j) 0 = s) (hs : selfB (rd l j) = true) : tableB (tab1 s l) = true := by
  show (decide (l.length ≤ 12) && (rowsB l && (hasI l s && selfB (rd l (lbI l s))))) = true
  rw [decide_eq_true (rowsB_len hr), hr, (hasI_iff (rowsB_asc hr) _).2 ⟨j, hj, hid⟩, lbI_at (rowsB_asc hr) hj hid, hs]
  rfl
theorem tableB_in {t : V} (h : tableB t = true) : rowsB (gl t 1) = true ∧ 1 ≤ (gl t 1).length ∧ (gl t 1).length ≤ 12 ∧ hasI (gl t 1) (gi t 0) = true := by
  unfold tableB at h
  simp only [Bool.and_eq_true] at h
  have := (hasI_lt h.2.2.1).1
  exact ⟨h.2.1, by omega, rowsB_len h.2.1, h.2.2.1⟩
theorem member_O {c : V} (h : CurOk c) : ∃ m c', spec_l10member (n_spec_l1Cur c) = some (m, c') ∧ CurOk c' ∧ memB m = true := by
  unfold spec_l10member
  obtain ⟨x, c1, e1, h1, x0, x1⟩ := below_ok h (n := 6) (by decide)
  obtain ⟨y, c2, e2, h2, y0, y1⟩ := below_ok h1 (n := 4) (by decide)
  obtain ⟨z, c3, e3, h3, z0, z1⟩ := below_ok h2 (n := 4) (by decide)
  rw [show n_spec_l1Cur (n_spec_l1Cur c) = n_spec_l1Cur c from rfl, e1]
  simp only [Option.bind_some]
  rw [e2]
  simp only [Option.bind_some]
  rw [e3]
  refine ⟨_, _, rfl, h3, ?_⟩
  rw [memB_iff]
  show 0 ≤ x ∧ x ≤ 11 ∧ 0 ≤ y ∧ y ≤ 3 ∧ 0 ≤ z ∧ z ≤ 1000
  omega
theorem table_loop {n : Int} : ∀ (k : Nat) (i : Int) (b0 b1 b2 : V) (r3 r4 : List V), CurOk b0 → 0 ≤ i → i ≤ n → n ≤ 100 → (n - i).toNat < k → tableB (tab1 (gi b2 0) r4) = true →
    ∃ c' b1' b2' r3' r4', spec_l10table_l4 k n i (n_spec_l1Cur b0) b1 b2 r3 r4 = some (c', b1', b2', r3', r4') ∧ CurOk c' ∧ tableB (tab1 (gi b2' 0) r4') = true
  | 0, _, _, _, _, _, _, _, _, _, _, hk, _ => by omega
  | k + 1, i, b0, b1, b2, r3, r4, hb, i0, i1, hn, hk, ht => by
    unfold spec_l10table_l4
    by_cases hi : i < n
    · rw [decide_eq_true hi, cond_true, show n_spec_l1Cur (n_spec_l1Cur b0) = n_spec_l1Cur b0 from rfl]
      obtain ⟨m, c1, e1, h1, hm⟩ := member_O hb
      rw [e1]
      simp only [Option.bind_some]
      obtain ⟨hr, -, hl, -⟩ := tableB_in ht
      have e2 := spec_say_eq (t := tab1 (gi b2 0) r4) (m := n_impl_Member m) hl (rowsB_asc hr) hm
      rw [show (V.agg [(V.int .i64 (gi b2 0)), (V.inl t_impl_Member r4)]) = tab1 (gi b2 0) r4 from rfl, e2]
      simp only [Option.bind_some]
      rw [wr64' (n := i + 1) (by omega) (by omega)]
      exact table_loop k (i + 1) c1 _ _ _ _ h1 (by omega) (by omega) hn (by omega) (hear_table ht (m := n_impl_Member m) hm)
    · rw [decide_eq_false hi, cond_false]
      exact ⟨_, _, _, _, _, rfl, hb, ht⟩
theorem leave_O {t : V} (ht : tableB t = true) : ∃ t' b, spec_Leave t = some (t', b) ∧ 1 ≤ (gl t' 1).length ∧ (gl t' 1).length ≤ 12 := by
  obtain ⟨hr, l1, l2, hh⟩ := tableB_in ht
  obtain ⟨hk, he⟩ := hasI_lt hh
  unfold spec_Leave spec_l10own
  rw [spec_table_eq, ht]
  simp only [Option.bind_some, Bool.not_true, cond_false, show gl (n_impl_Table t) 1 = gl t 1 from rfl]
  rw [roomy_of (n := 0 + (gl t 1).length) (by omega) (by omega)]
  simp only [Bool.and_self, cond_true, Option.bind_some]
  simp only [show n_impl_Table (n_impl_Table t) = n_impl_Table t from rfl]
  rw [find_eq (by omega) (rowsB_asc hr), hh]
  simp only [cond_true, Option.bind_some, show gl (n_impl_Table t) 1 = gl t 1 from rfl, idxOk_nat hk]
  cases decide (gi (rd (gl t 1) (0 + ((lbI (gl t 1) (gi t 0) : Nat) : Int).toNat)) 1 = 3) with
  | true => exact ⟨_, _, rfl, l1, l2⟩
  | false => exact ⟨_, _, rfl, by show 1 ≤ ((gl t 1).set _ _).length; rw [List.length_set]; exact l1, by show ((gl t 1).set _ _).length ≤ 12; rw [List.length_set]; exact l2⟩
theorem new_O' {x : Int} (h0 : 0 ≤ x) (h1 : x < 6) : spec_TableNew x = (tab1 x [V.agg [(V.int .i64 x), (V.int .i64 0), (V.int .i64 0)]], true) ∧ tableB (tab1 x [V.agg [(V.int .i64 x), (V.int .i64 0), (V.int .i64 0)]]) = true := by
  constructor
  · unfold spec_TableNew
    rw [decide_eq_false (by omega), decide_eq_false (by omega)]
    rfl
  · refine tableB_of (j := 0) (rowsB_of (fun i hi => ?_) (fun i hi => ?_)) (by simp) rfl ((selfB_iff _).2 (.inl rfl))
    · obtain rfl : i = 0 := by simpa using hi
      rw [memB_iff]
      show 0 ≤ x ∧ x ≤ 11 ∧ (0 : Int) ≤ 0 ∧ (0 : Int) ≤ 3 ∧ (0 : Int) ≤ 0 ∧ (0 : Int) ≤ 1000
      omega
    · simp at hi
theorem table_O {c : V} (h : CurOk c) : ∃ t c', spec_l10table (n_spec_l1Cur c) = some (t, c') ∧ CurOk c' ∧ 1 ≤ (gl t 1).length ∧ (gl t 1).length ≤ 12 := by
  unfold spec_l10table
  obtain ⟨x, c1, e1, h1, x0, x1⟩ := below_ok h (n := 6) (by decide)
  rw [show n_spec_l1Cur (n_spec_l1Cur c) = n_spec_l1Cur c from rfl, e1]
  simp only [Option.bind_some]
  obtain ⟨en, hn⟩ := new_O' x0 x1
  rw [en]
  unfold rlet
  obtain ⟨y, c2, e2, h2, y0, y1⟩ := below_ok h1 (n := 8) (by decide)
  rw [e2]
  simp only [Option.bind_some]
  obtain ⟨c3, b1', b2', r3', r4', e3, h3, ht⟩ := table_loop (n := y) ((y - 0).toNat + 1) 0 c2 (V.agg [(V.int .i64 0), (V.sl 3 t_impl_Member 0 none)]) (V.agg [(V.int .i64 x), (V.sl 4 t_impl_Member 0 none)]) [] [V.agg [(V.int .i64 x), (V.int .i64 0), (V.int .i64 0)]] h2 (by omega) (by omega) (by omega) (by omega) hn
  have e3' : spec_l10table_l4 ((y - 0).toNat + 1) y 0 (n_spec_l1Cur c2) (V.agg [(V.int .i64 0), (V.sl 3 t_impl_Member 0 none)]) (V.agg [(V.int .i64 (gi (tab1 x [V.agg [(V.int .i64 x), (V.int .i64 0), (V.int .i64 0)]]) 0)), (V.sl 4 t_impl_Member 0 none)]) [] (gl (tab1 x [V.agg [(V.int .i64 x), (V.int .i64 0), (V.int .i64 0)]]) 1) = some (c3, b1', b2', r3', r4') := e3
  rw [e3']
  simp only [Option.bind_some]
  obtain ⟨b, c4, e4, h4⟩ := once_ok h3 (n := 8) (by decide)
  rw [e4]
  simp only [Option.bind_some]
  cases b with
  | true =>
    obtain ⟨t', b', e5, l1, l2⟩ := leave_O ht
    rw [cond_true, show (V.agg [(V.int .i64 (gi b2' 0)), (V.inl t_impl_Member r4')]) = tab1 (gi b2' 0) r4' from rfl, e5]
    exact ⟨_, _, rfl, h4, l1, l2⟩
  | false =>
    obtain ⟨-, l1, l2, -⟩ := tableB_in ht
    exact ⟨_, _, rfl, h4, l1, l2⟩
theorem bentT_O {c : V} (h : CurOk c) : ∃ t c', spec_l10bent (n_spec_l1Cur c) = some (t, c') ∧ CurOk c' := by
  unfold spec_l10bent
  obtain ⟨t, c1, e1, h1, l1, l2⟩ := table_O h
  rw [show n_spec_l1Cur (n_spec_l1Cur c) = n_spec_l1Cur c from rfl, e1]
  simp only [Option.bind_some]
  obtain ⟨b, c2, e2, h2⟩ := once_ok h1 (n := 7) (by decide)
  rw [e2]
  simp only [Option.bind_some]
  cases b with
  | false => exact ⟨_, _, rfl, h2⟩
  | true =>
    obtain ⟨x, c3, e3, h3, x0, x1⟩ := below_ok h2 (n := 5) (by decide)
    rw [Bool.not_true, cond_false, e3]
    simp only [Option.bind_some]
    have hi : idxOk 0 (gl t 1).length = true := idx_of (by omega) (by omega)
    rw [hi, roomy_of (n := (gl t 1).length + 1) (by omega) (by omega), decide_eq_true (p := (1 : Int) ≤ (((gl t 1).length : Nat) : Int)) (by omega)]
    simp only [Bool.and_self, cond_true]
    cases decide (x = 0) with
    | true =>
      obtain ⟨j, c4, e4, h4, _⟩ := pick_ok h3 (l := [(V.int .i64 (-1)), (V.int .i64 11), (V.int .i64 12)]) (by decide)
      rw [cond_true, e4]; exact ⟨_, _, rfl, h4⟩
    | false =>
      cases decide (x = 1) with
      | true =>
        obtain ⟨m, c4, e4, h4, _⟩ := member_O h3
        rw [cond_false, cond_true, e4]; exact ⟨_, _, rfl, h4⟩
      | false =>
        cases decide (x = 2) with
        | true =>
          obtain ⟨j, c4, e4, h4, _⟩ := pick_ok h3 (l := [(V.int .i64 (-1)), (V.int .i64 1), (V.int .i64 4)]) (by decide)
          rw [cond_false, cond_false, cond_true, e4]; exact ⟨_, _, rfl, h4⟩
        | false =>
          cases decide (x = 3) with
          | true =>
            obtain ⟨j, c4, e4, h4, _⟩ := pick_ok h3 (l := [(V.int .i64 (-1)), (V.int .i64 1000), (V.int .i64 1001)]) (by decide)
            rw [cond_false, cond_false, cond_false, cond_true, e4]; exact ⟨_, _, rfl, h4⟩
          | false => exact ⟨_, _, rfl, h3⟩
theorem hear_again {s : Int} {l : List V} {m : V} (hr : rowsB l = true) {j : Nat} (hj : j < l.length) (hid : gi (rd l j) 0 = gi m 0) (hb : beatB m (rd l j) = false) : hearT s l m = (false, l) := by
  have ha := rowsB_asc hr
  unfold hearT
  rw [if_pos ((hasI_iff ha _).2 ⟨j, hj, hid⟩), lbI_at ha hj hid, if_neg (by rw [hb]; decide)]
end Go.Eng.R
open Go Go.Eng
namespace Go.Eng.R
theorem drawMerge_O {code : List V} (h : LW W_byte code) : ∃ t o, spec_DrawMerge code = some (t, o) := by
  unfold spec_DrawMerge
  obtain ⟨c, e, h0⟩ := new_ok h
  rw [e]
  simp only [Option.bind_some]
  obtain ⟨t, c1, e1, h1⟩ := bentT_O h0
  rw [e1]
  simp only [Option.bind_some]
  obtain ⟨o, c2, e2, h2⟩ := bentT_O h1
  rw [e2]
  exact ⟨_, _, rfl⟩
def Heard (s : Int) (o : List V) (n : Nat) (l : List V) : Prop := tableB (tab1 s l) = true ∧ ∀ i, i < n → ∃ j, j < l.length ∧ gi (rd l j) 0 = gi (rd o i) 0 ∧ beatB (rd o i) (rd l j) = false
def boxT (s : Int) : V := V.agg [(V.int .i64 s), (V.sl 1 t_impl_Member 0 none)]
theorem Heard.rows {s : Int} {o : List V} {n : Nat} {l : List V} (h : Heard s o n l) : rowsB l = true := (tableB_in h.1).1
theorem Heard.step {s : Int} {o : List V} {i : Nat} {l : List V} (ho : rowsB o = true) (hi : i < o.length) (h : Heard s o i l) : Heard s o (i + 1) (hearT s l (rd o i)).2 := by
  have hm := rowsB_mem ho hi
  obtain ⟨k1, k2, k3⟩ := hear_keeps s h.rows hm
  refine ⟨hear_table (t := tab1 s l) h.1 hm, fun q hq => ?_⟩
  by_cases c : q = i
  · subst c; exact k3
  · obtain ⟨j, hj, e1, e2⟩ := h.2 q (by omega)
    obtain ⟨j', hj', e'⟩ := k2 j hj
    have hu : upd s (rd o i) (rd l j) = rd l j := by
      unfold upd
      rw [if_neg]
      rw [beatB_iff]
      rintro ⟨d, -⟩
      have := (rowsB_asc ho).lt i q (by omega) hi
      omega
    rw [hu] at e'
    exact ⟨j', hj', by rw [e']; exact e1, by rw [e']; exact e2⟩
theorem hear_box {s : Int} {o l : List V} {n i : Nat} (ho : rowsB o = true) (hi : i < o.length) (h : Heard s o n l) :
    impl_Table_hear (V.agg [(V.int .i64 (gi (boxT s) 0)), (V.inl t_impl_Member l)]) (n_impl_Member (rd o i)) = some ((hearT s l (rd o i)).1, tab1 s (hearT s l (rd o i)).2) :=
  impl_hear_eq (t := tab1 s l) (m := n_impl_Member (rd o i)) (tableB_in h.1).2.2.1 (rowsB_asc h.rows) (rowsB_mem ho hi)
theorem merge1 {s : Int} {o : List V} (ho : rowsB o = true) : ∀ (k i : Nat) (l : List V) (ch : Bool), i ≤ o.length → o.length - i < k → Heard s o i l →
    ∃ ch' l', impl_Table_merge_l3 k ch o ((o.length : Nat) : Int) (i : Int) (boxT s) l = some (ch', boxT s, l') ∧ Heard s o o.length l'
  | 0, _, _, _, _, hk, _ => by omega
  | k + 1, i, l, ch, hi, hk, h => by
    unfold impl_Table_merge_l3
    rcases Nat.lt_or_ge i o.length with c | c
    · rw [lt_nat c, idxOk_nat c, Int.toNat_natCast, cond_true, cond_true, hear_box ho c h]
      have hl := rowsB_len ho
      simp only [Option.bind_some, wr_succ c (show o.length ≤ 9223372036854775807 by omega)]
      cases (hearT s l (rd o i)).1 with
      | true => exact merge1 ho k (i + 1) _ true (by omega) (by omega) (h.step ho c)
      | false => exact merge1 ho k (i + 1) _ ch (by omega) (by omega) (h.step ho c)
    · obtain rfl : i = o.length := by omega
      rw [lt_self, cond_false]
      exact ⟨_, _, rfl, h⟩
theorem merge2 {s : Int} {o : List V} (ho : rowsB o = true) {l : List V} (h : Heard s o o.length l) : ∀ (k i : Nat) (ch : Bool), i ≤ o.length → o.length - i < k →
    impl_Table_merge_l3 k ch o ((o.length : Nat) : Int) (i : Int) (boxT s) l = some (ch, boxT s, l)
  | 0, _, _, _, hk => by omega
  | k + 1, i, ch, hi, hk => by
    unfold impl_Table_merge_l3
    rcases Nat.lt_or_ge i o.length with c | c
    · obtain ⟨j, hj, e1, e2⟩ := h.2 i c
      rw [lt_nat c, idxOk_nat c, Int.toNat_natCast, cond_true, cond_true, hear_box ho c h, hear_again h.rows hj e1 e2]
      have hl := rowsB_len ho
      simp only [Option.bind_some, cond_false, wr_succ c (show o.length ≤ 9223372036854775807 by omega)]
      exact merge2 ho h k (i + 1) ch (by omega) (by omega)
    · obtain rfl : i = o.length := by omega
      rw [lt_self, cond_false]
      rfl
theorem merge_no {t o : V} (h : tableB t = false ∨ tableB o = false) : impl_Merge (n_impl_Table t) (n_impl_Table o) = some (V.agg [(V.int .i64 0), (V.inl t_impl_Member [])], false) := by
  unfold impl_Merge
  simp only [show n_impl_Table (n_impl_Table t) = n_impl_Table t from rfl, show n_impl_Table (n_impl_Table o) = n_impl_Table o from rfl, impl_table_eq, Option.bind_some]
  rcases h with h | h
  · rw [h]; rfl
  · rw [h]
    cases tableB t <;> rfl
theorem merge_of {t o : V} (ht : tableB t = true) (ho : tableB o = true) {ch : Bool} {l' : List V}
    (h : impl_Table_merge_l3 ((gl o 1).length + 1) false (gl o 1) (((gl o 1).length : Nat) : Int) ((0 : Nat) : Int) (boxT (gi t 0)) (gl t 1) = some (ch, boxT (gi t 0), l')) :
    impl_Merge (n_impl_Table t) (n_impl_Table o) = some (tab1 (gi t 0) l', ch) := by
  obtain ⟨-, -, l2, -⟩ := tableB_in ht
  unfold impl_Merge impl_Table_own slices_Clone_Member impl_Table_merge
  simp only [show n_impl_Table (n_impl_Table t) = n_impl_Table t from rfl, show n_impl_Table (n_impl_Table o) = n_impl_Table o from rfl, impl_table_eq, ht, ho, Option.bind_some, Bool.not_true, cond_false, show gl (n_impl_Table t) 1 = gl t 1 from rfl, show gl (n_impl_Table o) 1 = gl o 1 from rfl]
  rw [roomy_of (n := 0 + (gl t 1).length) (by omega) (by omega)]
  simp only [Bool.and_self, cond_true, Option.bind_some, fuel_eq]
  refine (congrArg (fun q => Option.bind (Option.bind q _) _) h).trans ?_
  rfl
theorem live_run {s : Int} {l : List V} (hr : rowsB l = true) : ∀ (k i : Nat) (c : Int) (r : List V), i ≤ l.length → l.length - i < k → (r.length : Int) = c → r.length ≤ i →
    ∃ c' r', laws_FnMerges_l10 k c (i : Int) (boxT s) l = some (c', boxT s, l) ∧ impl_Table_live_l3 k l ((l.length : Nat) : Int) (i : Int) r = some r' ∧ (r'.length : Int) = c'
  | 0, _, _, _, _, hk, _, _ => by omega
  | k + 1, i, c, r, hi, hk, hc, hri => by
    have hl := rowsB_len hr
    unfold laws_FnMerges_l10 impl_Table_live_l3
    rcases Nat.lt_or_ge i l.length with d | d
    · have hm := (memB_iff _).1 (rowsB_mem hr d)
      rw [lt_nat d, idxOk_nat d, Int.toNat_natCast, Nat.zero_add, cond_true, cond_true, cond_true, cond_true, wr_succ d (show l.length ≤ 9223372036854775807 by omega), wr64' (n := c + 1) (by omega) (by omega), roomy_of (n := r.length + 1) (by omega) (by omega)]
      have go1 := live_run (s := s) hr k (i + 1) (c + 1) (r ++ [(V.int .i64 (gi (rd l i) 0))]) (by omega) (by omega) (by simp; omega) (by simp; omega)
      have go0 := live_run (s := s) hr k (i + 1) c r (by omega) (by omega) hc (by omega)
      by_cases h1 : gi (rd l i) 1 ≤ 1
      · rw [decide_eq_true h1]
        by_cases h2 : gi (rd l i) 1 = 0
        · rw [decide_eq_true h2]; exact go1
        · rw [decide_eq_false h2, decide_eq_true (p := gi (rd l i) 1 = 1) (by omega)]; exact go1
      · rw [decide_eq_false h1, decide_eq_false (p := gi (rd l i) 1 = 0) (by omega), decide_eq_false (p := gi (rd l i) 1 = 1) (by omega)]; exact go0
    · obtain rfl : i = l.length := by omega
      rw [lt_self, cond_false, cond_false]
      exact ⟨_, _, rfl, rfl, hc⟩
theorem law_Merges {code : List V} (h : LW W_byte code) : laws_FnMerges code = some true := by
  unfold laws_FnMerges
  obtain ⟨t, o, e⟩ := drawMerge_O h
  rw [e]
  simp only [Option.bind_some, spec_table_eq]
  cases ht : tableB t with
  | false =>
    rw [merge_no (.inl ht)]
    rfl
  | true =>
    cases ho : tableB o with
    | false =>
      rw [merge_no (.inr ho)]
      rfl
    | true =>
      have hro := (tableB_in ho).1
      obtain ⟨ch, l', e1, h1⟩ := merge1 (s := gi t 0) hro ((gl o 1).length + 1) 0 (gl t 1) false (Nat.zero_le _) (by omega) ⟨ht, fun i hi => by omega⟩
      rw [merge_of ht ho e1]
      simp only [Option.bind_some, Bool.not_true, cond_false]
      rw [merge_of (t := tab1 (gi t 0) l') h1.1 ho (merge2 hro h1 ((gl o 1).length + 1) 0 false (Nat.zero_le _) (by omega)), impl_table_eq, h1.1]
      simp only [Option.bind_some, Bool.not_true, cond_false]
      obtain ⟨c', r', e2, e3, e4⟩ := live_run (s := gi t 0) h1.rows (l'.length + 1) 0 0 [] (Nat.zero_le _) (by omega) rfl (Nat.le_refl _)
      rw [show gl (tab1 (gi t 0) l') 1 = l' from rfl, fuel_eq]
      refine (congrArg (fun q => Option.bind q _) e2).trans ?_
      simp only [Option.bind_some]
      have el : impl_Live (V.agg [(V.int .i64 (gi (boxT (gi t 0)) 0)), (V.inl t_impl_Member l')]) = some r' := by
        unfold impl_Live impl_Table_live
        rw [show n_impl_Table (V.agg [(V.int .i64 (gi (boxT (gi t 0)) 0)), (V.inl t_impl_Member l')]) = n_impl_Table (tab1 (gi t 0) l') from rfl, impl_table_eq, h1.1]
        simp only [Option.bind_some, Bool.not_true, cond_false]
        rw [show gl (n_impl_Table (tab1 (gi t 0) l')) 1 = l' from rfl, fuel_eq]
        refine (congrArg (fun q => Option.bind (Option.bind q _) _) e3).trans ?_
        rfl
      rw [el]
      simp only [Option.bind_some]
      rw [decide_eq_true e4]
end Go.Eng.R
open Go Go.Eng
namespace Go.Eng.R
theorem wt_byte {x : V} (h : WtT tab t_byte x) : W_byte x := wt_u8 (h.cell 0 rfl)
theorem wt_sl_byte {x : V} (h : WtT tab t_sl_byte x) : LW W_byte (gl x 0) := wt_sl (h.cell 0 rfl) fun _ => wt_byte
def readable : List TypeId := [5, 22]
end Go.Eng.R
