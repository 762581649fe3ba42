/- An own evaluator of the program's form, proved sound, and what it says of this law's functions: part 4. -/
import Derived.Test.YtmkjebekmeefcaaGreatE3
set_option linter.unusedVariables false
open Go Go.Eng Go.Proofs
namespace Go.Eng.R
noncomputable def e101 : En Tryz.prog tab := enT base [] false [] Tryz.func101 noLo [(.one (.inl t_byte)), (.one (.int .i64))] (fun a => laws_szByteS ((rd a 0).L) ((rd a 1).I)) (fun r_ : Int => ((vi r_), [])) [] [] [some t_byte, none] false (by kernel_rfl) fun _ => gT (g5 g7 g7) (by kernel_rfl)
noncomputable def e92 : En Tryz.prog tab := enT base [e101] false [] Tryz.func92 noLo [(.agg q0), (.one (.int .i64))] (fun a => laws_szOp (rd a 0) ((rd a 1).I)) (fun r_ : Int => ((vi r_), [])) [] [] [none, none] false (by kernel_rfl) fun _ => gT (g5 g7 (g5 g7 g7)) (by kernel_rfl)
noncomputable def e72 : En Tryz.prog tab := enT base [e92] false [] Tryz.func72 noLo [(.agg q1), (.one (.int .i64))] (fun a => laws_szCmd (rd a 0) ((rd a 1).I)) (fun r_ : Int => ((vi r_), [])) [] [] [none, none] false (by kernel_rfl) fun _ => gT (g5 g7 g7) (by kernel_rfl)
noncomputable def e42 : En Tryz.prog tab := enT base [e72] false [] Tryz.func42 noLo [(.agg q2), (.one (.int .i64))] (fun a => laws_szItem (rd a 0) ((rd a 1).I)) (fun r_ : Int => ((vi r_), [])) [] [] [none, none] false (by kernel_rfl) fun _ => gT (g5 g7 g7) (by kernel_rfl)
noncomputable def c18 : Cfg := cfgOf (P := Tryz.prog) (tab := tab) [e42] false []
def a18_0 (r_ : Nat × Int × Int) : List (Ex × St) := [(Ex.ret, (⟨[(1, (vi r_.2.1)), (4, (vi r_.2.2))], [], 0, []⟩ : St)), ((Ex.exit 0), (⟨[(1, (vi r_.2.1)), (4, V.dead)], [], 0, []⟩ : St))]
def s18_0 : SS := ⟨[(0, (.one (.inl t_laws_Item))), (1, (.one (.int .i64))), (5, (.one (.int .i64)))], [], 0, []⟩
noncomputable def l18_0 : LE := le1 5 s18_0 (fun st => laws_szItemS_l5 ((((((sv st 0).L).length : Nat) : Int) - ((sv st 2).I)).toNat + 1) ((sv st 0).L) ((sv st 1).I) ((sv st 2).I)) a18_0
noncomputable def L18 : Loops := ⟨fun k => (look [(5, [0, 1, 5])] k).getD [], fun _ => [], fun k => (look [(5, [1, 4])] k).getD [], runL [l18_0]⟩
theorem t18_0 (k_ : Nat) : ∀ (a0 : List V) (left1 : Int) (i5 : Int), Agr id (pk1 a18_0) (laws_szItemS_l5 k_ a0 left1 i5) (rounds c18 L18 (lpB Tryz.f18 0) k_ (s18_0.mk' (stv [V.inl 0 a0, vi left1, vi i5] []))) := by
  induction k_ with
  | zero => exact fun _ _ _ => g0
  | succ k_ ih => exact fun _ _ _ => gA (g1 (g1 (g1 g4 (ih _ _ _)) g0) g4) (by kernel_rfl)
theorem o18 : LoopsOk c18 L18 (bodyOf Tryz.f18) := GoodAll.ok (l := [l18_0]) (.cons 0 (by kernel_rfl) (gd1 (fun st => (((((sv st 0).L).length : Nat) : Int) - ((sv st 2).I)).toNat + 1) (fun st => t18_0 _ _ _ _) fun st => by kernel_rfl) (.nil)) rfl
noncomputable def e18 : En Tryz.prog tab := enP base [e42] false [] Tryz.func18 (L := L18) o18 [(.one (.inl t_laws_Item)), (.one (.int .i64))] (fun a => laws_szItemS ((rd a 0).L) ((rd a 1).I)) (fun r_ : Int => ((vi r_), [])) [] [] [some t_laws_Item, none] false (by kernel_rfl) fun _ => gA (g1 g4 (g2 fun _ => g1 g4 g4)) (by kernel_rfl)
noncomputable def e19 : En Tryz.prog tab := enT base [] false [] Tryz.func19 noLo [(.one (.inl t_bool)), (.one (.int .i64))] (fun a => laws_szBoolS ((rd a 0).L) ((rd a 1).I)) (fun r_ : Int => ((vi r_), [])) [] [] [some t_bool, none] false (by kernel_rfl) fun _ => gT (g5 g7 g7) (by kernel_rfl)
noncomputable def e20 : En Tryz.prog tab := enT base [] false [] Tryz.func20 noLo [(.one (.inl t_int')), (.one (.int .i64))] (fun a => laws_szIntS ((rd a 0).L) ((rd a 1).I)) (fun r_ : Int => ((vi r_), [])) [] [] [some t_int', none] false (by kernel_rfl) fun _ => gT (g5 g7 g7) (by kernel_rfl)
noncomputable def e4 : En Tryz.prog tab := enP base [e18, e19, e20] false [] Tryz.func4 noLo [(.agg q3), (.one (.int .i64))] (fun a => laws_szNode (rd a 0) ((rd a 1).I)) (fun r_ : Int => ((vi r_), [])) [] [] [none, none] false (by kernel_rfl) fun _ => gA (g2 fun _ => g1 g4 (g1 g4 (g1 g4 (g1 g4 g4)))) (by kernel_rfl)
noncomputable def e5 : En Tryz.prog tab := enP base [e18] false [] Tryz.func5 noLo [(.agg q4), (.one (.int .i64))] (fun a => laws_szMsg (rd a 0) ((rd a 1).I)) (fun r_ : Int => ((vi r_), [])) [] [] [none, none] false (by kernel_rfl) fun _ => gA (g2 fun _ => g1 g4 g4) (by kernel_rfl)
noncomputable def c105 : Cfg := cfgOf (P := Tryz.prog) (tab := tab) [] false []
def a105_0 (r_ : List V) : List (Ex × St) := [((Ex.exit 0), (⟨[(3, (vs 0 t_byte))], [(0, some (Blk.row t_byte true r_))], 1, []⟩ : St))]
def s105_0 : SS := ⟨[(0, (.one (.inl t_byte))), (3, (.one (.sl 0 t_byte))), (4, (.one (.int .i64)))], [(.row t_byte true)], 1, []⟩
noncomputable def l105_0 : LE := le0 3 s105_0 (fun st => laws_toByteS_l3 ((((((sv st 0).L).length : Nat) : Int) - ((sv st 2).I)).toNat + 1) ((sv st 0).L) ((sv st 2).I) (br st 0)) a105_0
noncomputable def L105 : Loops := ⟨fun k => (look [(3, [0, 3, 4])] k).getD [], fun _ => [], fun k => (look [(3, [3])] k).getD [], runL [l105_0]⟩
theorem t105_0 (k_ : Nat) : ∀ (a0 : List V) (i4 : Int) (r0 : List V), Agr id (pk0 a105_0) (laws_toByteS_l3 k_ a0 i4 r0) (rounds c105 L105 (lpB Tryz.f105 0) k_ (s105_0.mk' (stv [V.inl 0 a0, .dead, vi i4] [rb r0]))) := by
  induction k_ with
  | zero => exact fun _ _ _ => g0
  | succ k_ ih => exact fun _ _ _ => gA (g1 (g1 (g1 (ih _ _ _) g0) g0) g4) (by kernel_rfl)
theorem o105 : LoopsOk c105 L105 (bodyOf Tryz.f105) := GoodAll.ok (l := [l105_0]) (.cons 0 (by kernel_rfl) (gd0 (fun st => (((((sv st 0).L).length : Nat) : Int) - ((sv st 2).I)).toNat + 1) (fun st => t105_0 _ _ _ _) fun st => by kernel_rfl) (.nil)) rfl
noncomputable def e105 : En Tryz.prog tab := enP base [] false [] Tryz.func105 (L := L105) o105 [(.one (.inl t_byte))] (fun a => laws_toByteS ((rd a 0).L)) (fun r_ : List V => ((V.rr t_byte true r_), [])) [[(.rr t_byte true)]] [] [some t_byte] false (by kernel_rfl) fun _ => gA (g1 (g2 fun _ => g4) g0) (by kernel_rfl)
noncomputable def e94 : En Tryz.prog tab := enP base [e105] false [] Tryz.func94 noLo [(.agg q0)] (fun a => laws_toOp (rd a 0)) (fun r_ : V => ((h5 r_), [])) [q6] [] [none] false (by kernel_rfl) fun _ => gA (g2 fun _ => g2 fun _ => g4) (by kernel_rfl)
noncomputable def e80 : En Tryz.prog tab := enP base [e94] false [] Tryz.func80 noLo [(.agg q1)] (fun a => laws_toCmd (rd a 0)) (fun r_ : V => ((h7 r_), [])) [q8] [] [none] false (by kernel_rfl) fun _ => gA (g2 fun _ => g4) (by kernel_rfl)
noncomputable def e55 : En Tryz.prog tab := enP base [e80] false [] Tryz.func55 noLo [(.agg q2)] (fun a => laws_toItem (rd a 0)) (fun r_ : V => ((h9 r_), [])) [q10] [] [none] false (by kernel_rfl) fun _ => gA (g2 fun _ => g4) (by kernel_rfl)
noncomputable def c26 : Cfg := cfgOf (P := Tryz.prog) (tab := tab) [e55] false []
def a26_0 (r_ : List V) : List (Ex × St) := [((Ex.exit 0), (⟨[(3, (vs 0 t_impl_Item))], [(0, some (Blk.row t_impl_Item true r_))], 1, []⟩ : St))]
def s26_0 : SS := ⟨[(0, (.one (.inl t_laws_Item))), (3, (.one (.sl 0 t_impl_Item))), (4, (.one (.int .i64)))], [(.row t_impl_Item true)], 1, []⟩
noncomputable def l26_0 : LE := le0 3 s26_0 (fun st => laws_toItemS_l3 ((((((sv st 0).L).length : Nat) : Int) - ((sv st 2).I)).toNat + 1) ((sv st 0).L) ((sv st 2).I) (br st 0)) a26_0
noncomputable def L26 : Loops := ⟨fun k => (look [(3, [0, 3, 4])] k).getD [], fun _ => [], fun k => (look [(3, [3])] k).getD [], runL [l26_0]⟩
theorem t26_0 (k_ : Nat) : ∀ (a0 : List V) (i4 : Int) (r0 : List V), Agr id (pk0 a26_0) (laws_toItemS_l3 k_ a0 i4 r0) (rounds c26 L26 (lpB Tryz.f26 0) k_ (s26_0.mk' (stv [V.inl 0 a0, .dead, vi i4] [rb r0]))) := by
  induction k_ with
  | zero => exact fun _ _ _ => g0
  | succ k_ ih => exact fun _ _ _ => gA (g1 (g1 (g2 fun _ => g1 (ih _ _ _) g0) g0) g4) (by kernel_rfl)
theorem o26 : LoopsOk c26 L26 (bodyOf Tryz.f26) := GoodAll.ok (l := [l26_0]) (.cons 0 (by kernel_rfl) (gd0 (fun st => (((((sv st 0).L).length : Nat) : Int) - ((sv st 2).I)).toNat + 1) (fun st => t26_0 _ _ _ _) fun st => by kernel_rfl) (.nil)) rfl
noncomputable def e26 : En Tryz.prog tab := enP base [e55] false [] Tryz.func26 (L := L26) o26 [(.one (.inl t_laws_Item))] (fun a => laws_toItemS ((rd a 0).L)) (fun r_ : List V => ((V.rr t_impl_Item true r_), [])) [[(.rr t_impl_Item true)]] [] [some t_laws_Item] false (by kernel_rfl) fun _ => gA (g1 (g2 fun _ => g4) g0) (by kernel_rfl)
noncomputable def c27 : Cfg := cfgOf (P := Tryz.prog) (tab := tab) [] false []
def a27_0 (r_ : List V) : List (Ex × St) := [((Ex.exit 0), (⟨[(3, (vs 0 t_bool))], [(0, some (Blk.row t_bool true r_))], 1, []⟩ : St))]
def s27_0 : SS := ⟨[(0, (.one (.inl t_bool))), (3, (.one (.sl 0 t_bool))), (4, (.one (.int .i64)))], [(.row t_bool true)], 1, []⟩
noncomputable def l27_0 : LE := le0 3 s27_0 (fun st => laws_toBoolS_l3 ((((((sv st 0).L).length : Nat) : Int) - ((sv st 2).I)).toNat + 1) ((sv st 0).L) ((sv st 2).I) (br st 0)) a27_0
noncomputable def L27 : Loops := ⟨fun k => (look [(3, [0, 3, 4])] k).getD [], fun _ => [], fun k => (look [(3, [3])] k).getD [], runL [l27_0]⟩
theorem t27_0 (k_ : Nat) : ∀ (a0 : List V) (i4 : Int) (r0 : List V), Agr id (pk0 a27_0) (laws_toBoolS_l3 k_ a0 i4 r0) (rounds c27 L27 (lpB Tryz.f27 0) k_ (s27_0.mk' (stv [V.inl 0 a0, .dead, vi i4] [rb r0]))) := by
  induction k_ with
  | zero => exact fun _ _ _ => g0
  | succ k_ ih => exact fun _ _ _ => gA (g1 (g1 (g1 (ih _ _ _) g0) g0) g4) (by kernel_rfl)
theorem o27 : LoopsOk c27 L27 (bodyOf Tryz.f27) := GoodAll.ok (l := [l27_0]) (.cons 0 (by kernel_rfl) (gd0 (fun st => (((((sv st 0).L).length : Nat) : Int) - ((sv st 2).I)).toNat + 1) (fun st => t27_0 _ _ _ _) fun st => by kernel_rfl) (.nil)) rfl
noncomputable def e27 : En Tryz.prog tab := enP base [] false [] Tryz.func27 (L := L27) o27 [(.one (.inl t_bool))] (fun a => laws_toBoolS ((rd a 0).L)) (fun r_ : List V => ((V.rr t_bool true r_), [])) [[(.rr t_bool true)]] [] [some t_bool] false (by kernel_rfl) fun _ => gA (g1 (g2 fun _ => g4) g0) (by kernel_rfl)
noncomputable def c28 : Cfg := cfgOf (P := Tryz.prog) (tab := tab) [] false []
def a28_0 (r_ : List V) : List (Ex × St) := [((Ex.exit 0), (⟨[(3, (vs 0 t_int'))], [(0, some (Blk.row t_int' true r_))], 1, []⟩ : St))]
def s28_0 : SS := ⟨[(0, (.one (.inl t_int'))), (3, (.one (.sl 0 t_int'))), (4, (.one (.int .i64)))], [(.row t_int' true)], 1, []⟩
noncomputable def l28_0 : LE := le0 3 s28_0 (fun st => laws_toIntS_l3 ((((((sv st 0).L).length : Nat) : Int) - ((sv st 2).I)).toNat + 1) ((sv st 0).L) ((sv st 2).I) (br st 0)) a28_0
noncomputable def L28 : Loops := ⟨fun k => (look [(3, [0, 3, 4])] k).getD [], fun _ => [], fun k => (look [(3, [3])] k).getD [], runL [l28_0]⟩
theorem t28_0 (k_ : Nat) : ∀ (a0 : List V) (i4 : Int) (r0 : List V), Agr id (pk0 a28_0) (laws_toIntS_l3 k_ a0 i4 r0) (rounds c28 L28 (lpB Tryz.f28 0) k_ (s28_0.mk' (stv [V.inl 0 a0, .dead, vi i4] [rb r0]))) := by
  induction k_ with
  | zero => exact fun _ _ _ => g0
  | succ k_ ih => exact fun _ _ _ => gA (g1 (g1 (g1 (ih _ _ _) g0) g0) g4) (by kernel_rfl)
theorem o28 : LoopsOk c28 L28 (bodyOf Tryz.f28) := GoodAll.ok (l := [l28_0]) (.cons 0 (by kernel_rfl) (gd0 (fun st => (((((sv st 0).L).length : Nat) : Int) - ((sv st 2).I)).toNat + 1) (fun st => t28_0 _ _ _ _) fun st => by kernel_rfl) (.nil)) rfl
noncomputable def e28 : En Tryz.prog tab := enP base [] false [] Tryz.func28 (L := L28) o28 [(.one (.inl t_int'))] (fun a => laws_toIntS ((rd a 0).L)) (fun r_ : List V => ((V.rr t_int' true r_), [])) [[(.rr t_int' true)]] [] [some t_int'] false (by kernel_rfl) fun _ => gA (g1 (g2 fun _ => g4) g0) (by kernel_rfl)
noncomputable def e7 : En Tryz.prog tab := enP base [e26, e27, e28] false [] Tryz.func7 noLo [(.agg q3)] (fun a => laws_toNode (rd a 0)) (fun r_ : V => ((h11 r_), [])) [q12] [] [none] false (by kernel_rfl) fun _ => gA (g2 fun _ => g2 fun _ => g2 fun _ => g2 fun _ => g4) (by kernel_rfl)
noncomputable def e8 : En Tryz.prog tab := enP base [e26] false [] Tryz.func8 noLo [(.agg q4)] (fun a => laws_toMsg (rd a 0)) (fun r_ : V => ((h13 r_), [])) [q14] [] [none] false (by kernel_rfl) fun _ => gA (g2 fun _ => g4) (by kernel_rfl)
noncomputable def e43 : En Tryz.prog tab := enT base [] false [] Tryz.func43 noLo [(.one (.int .i64))] (fun a => spec_l4servers ((rd a 0).I)) (fun r_ : Bool => ((V.bool r_), [])) [] [] [none] false (by kernel_rfl) fun _ => gT (g5 g7 g7) (by kernel_rfl)
noncomputable def e44 : En Tryz.prog tab := enT base [] false [] Tryz.func44 noLo [(.one (.int .i64))] (fun a => spec_l3term ((rd a 0).I)) (fun r_ : Bool => ((V.bool r_), [])) [] [] [none] false (by kernel_rfl) fun _ => gT (g5 g7 g7) (by kernel_rfl)
noncomputable def e45 : En Tryz.prog tab := enT base [] false [] Tryz.func45 noLo [(.one (.int .i64)), (.one (.int .i64))] (fun a => spec_l4who ((rd a 0).I) ((rd a 1).I)) (fun r_ : Bool => ((V.bool r_), [])) [] [] [none, none] false (by kernel_rfl) fun _ => gT (g5 g7 g7) (by kernel_rfl)
noncomputable def e102 : En Tryz.prog tab := enT base [] false [] Tryz.func102 noLo [(.one (.inl t_byte))] (fun a => spec_l2val ((rd a 0).L)) (fun r_ : Bool => ((V.bool r_), [])) [] [] [some t_byte] false (by kernel_rfl) fun _ => gT g7 (by kernel_rfl)
noncomputable def e103 : En Tryz.prog tab := enT base [] false [] Tryz.func103 noLo [(.one (.int .i64))] (fun a => spec_l2index ((rd a 0).I)) (fun r_ : Bool => ((V.bool r_), [])) [] [] [none] false (by kernel_rfl) fun _ => gT (g5 g7 g7) (by kernel_rfl)
noncomputable def c104 : Cfg := cfgOf (P := Tryz.prog) (tab := tab) [] false []
def a104_0 (r_ : Nat × Bool) : List (Ex × St) := [(Ex.ret, (⟨[(2, (V.bool r_.2))], [], 0, []⟩ : St)), ((Ex.exit 0), (⟨[(2, V.dead)], [], 0, []⟩ : St))]
def s104_0 : SS := ⟨[(0, (.one (.inl t_byte))), (3, (.one (.int .i64)))], [], 0, []⟩
noncomputable def l104_0 : LE := le1 4 s104_0 (fun st => spec_l2key_l4 ((((((sv st 0).L).length : Nat) : Int) - ((sv st 1).I)).toNat + 1) ((sv st 0).L) ((sv st 1).I)) a104_0
noncomputable def L104 : Loops := ⟨fun k => (look [(4, [0, 3])] k).getD [], fun _ => [], fun k => (look [(4, [2])] k).getD [], runL [l104_0]⟩
set_option maxRecDepth 100000 in
theorem t104_0 (k_ : Nat) : ∀ (b0 : List V) (i3 : Int), Agr id (pk1 a104_0) (spec_l2key_l4 k_ b0 i3) (rounds c104 L104 (lpB Tryz.f104 0) k_ (s104_0.mk' (stv [V.inl 0 b0, vi i3] []))) := by
  induction k_ with
  | zero => exact fun _ _ => g0
  | succ k_ ih => exact fun _ _ => gA (g1 (g1 (g1 (g1 (g1 g4 (ih _ _)) g0) (g1 (g1 (g1 (g1 g4 (ih _ _)) g0) (ih _ _)) g0)) g0) g4) (by kernel_rfl)
theorem o104 : LoopsOk c104 L104 (bodyOf Tryz.f104) := GoodAll.ok (l := [l104_0]) (.cons 0 (by kernel_rfl) (gd1 (fun st => (((((sv st 0).L).length : Nat) : Int) - ((sv st 1).I)).toNat + 1) (fun st => t104_0 _ _ _) fun st => by kernel_rfl) (.nil)) rfl
noncomputable def e104 : En Tryz.prog tab := enP base [] false [] Tryz.func104 (L := L104) o104 [(.one (.inl t_byte))] (fun a => spec_l2key ((rd a 0).L)) (fun r_ : Bool => ((V.bool r_), [])) [] [] [some t_byte] false (by kernel_rfl) fun _ => gA (g1 g4 (g1 g4 (g2 fun _ => g1 g4 g4))) (by kernel_rfl)
set_option maxRecDepth 100000 in
noncomputable def e93 : En Tryz.prog tab := enP base [e102, e103, e104] false [] Tryz.func93 noLo [(.agg q0)] (fun a => spec_OpOk (rd a 0)) (fun r_ : Bool => ((V.bool r_), [])) [] [] [none] false (by kernel_rfl) fun _ => gA (g1 g4 (g1 g4 (g1 g4 (g1 g4 (g1 (g2 fun _ => g1 g4 (g1 (g1 g4 (g1 g4 (g1 g4 (g1 g4 (g1 g4 g4))))) (g1 (g1 g4 (g1 g4 (g1 g4 (g1 g4 (g1 g4 g4))))) (g1 (g1 g4 (g1 g4 (g1 g4 (g1 g4 (g1 g4 (g1 g4 g4)))))) (g1 g4 (g1 g4 (g1 g4 (g1 g4 (g1 g4 g4))))))))) (g1 (g2 fun _ => g1 g4 (g1 (g1 g4 (g1 g4 (g1 g4 (g1 g4 (g1 g4 g4))))) (g1 (g1 g4 (g1 g4 (g1 g4 (g1 g4 (g1 g4 g4))))) (g1 (g1 g4 (g1 g4 (g1 g4 (g1 g4 (g1 g4 (g1 g4 g4)))))) (g1 g4 (g1 g4 (g1 g4 (g1 g4 (g1 g4 g4))))))))) (g1 (g2 fun _ => g1 g4 (g1 (g1 g4 (g1 g4 (g1 g4 (g1 g4 (g1 g4 g4))))) (g1 (g1 g4 (g1 g4 (g1 g4 (g1 g4 (g1 g4 g4))))) (g1 (g1 g4 (g1 g4 (g1 g4 (g1 g4 (g1 g4 (g1 g4 g4)))))) (g1 g4 (g1 g4 (g1 g4 (g1 g4 (g1 g4 g4))))))))) (g1 (g2 fun _ => g1 g4 (g1 (g1 g4 (g1 g4 (g1 g4 (g1 g4 (g1 g4 g4))))) (g1 (g1 g4 (g1 g4 (g1 g4 (g1 g4 (g1 g4 g4))))) (g1 (g1 g4 (g1 g4 (g1 g4 (g1 g4 (g1 g4 (g1 g4 g4)))))) (g1 g4 (g1 g4 (g1 g4 (g1 g4 (g1 g4 g4))))))))) (g1 (g2 fun _ => g1 g4 (g1 (g1 g4 (g1 (g1 g4 (g1 g4 (g1 g4 (g1 g4 (g1 g4 g4))))) (g1 (g1 g4 (g1 g4 (g1 g4 (g1 g4 (g1 g4 g4))))) (g1 (g1 g4 (g1 g4 (g1 g4 (g1 g4 (g1 g4 (g1 g4 g4)))))) (g1 g4 (g1 g4 (g1 g4 (g1 g4 (g1 g4 g4))))))))) (g1 (g1 g4 (g1 g4 (g1 g4 (g1 g4 (g1 g4 g4))))) (g1 (g1 g4 (g1 g4 (g1 g4 (g1 g4 (g1 g4 g4))))) (g1 (g1 g4 (g1 g4 (g1 g4 (g1 g4 (g1 g4 (g1 g4 g4)))))) (g1 g4 (g1 g4 (g1 g4 (g1 g4 (g1 g4 g4)))))))))) (g1 (g1 g4 (g1 (g1 g4 (g1 g4 (g1 g4 (g1 g4 (g1 g4 g4))))) (g1 (g1 g4 (g1 g4 (g1 g4 (g1 g4 (g1 g4 g4))))) (g1 (g1 g4 (g1 g4 (g1 g4 (g1 g4 (g1 g4 (g1 g4 g4)))))) (g1 g4 (g1 g4 (g1 g4 (g1 g4 (g1 g4 g4))))))))) (g1 (g1 g4 (g1 g4 (g1 g4 (g1 g4 (g1 g4 g4))))) (g1 (g1 g4 (g1 g4 (g1 g4 (g1 g4 (g1 g4 g4))))) (g1 (g1 g4 (g1 g4 (g1 g4 (g1 g4 (g1 g4 (g1 g4 g4)))))) (g1 g4 (g1 g4 (g1 g4 (g1 g4 (g1 g4 g4)))))))))))))))))) (by kernel_rfl)
set_option maxRecDepth 100000 in
noncomputable def e73 : En Tryz.prog tab := enP base [e93] false [] Tryz.func73 noLo [(.agg q1)] (fun a => spec_CmdOk (rd a 0)) (fun r_ : Bool => ((V.bool r_), [])) [] [] [none] false (by kernel_rfl) fun _ => gA (g1 (g1 (g1 (g2 fun _ => g4) g4) g4) (g1 (g1 (g1 (g1 (g2 fun _ => g4) g4) g4) g4) g4)) (by kernel_rfl)
noncomputable def e46 : En Tryz.prog tab := enP base [e73] false [] Tryz.func46 noLo [(.agg q2)] (fun a => spec_ItemOk (rd a 0)) (fun r_ : Bool => ((V.bool r_), [])) [] [] [none] false (by kernel_rfl) fun _ => gA (g1 (g1 (g2 fun _ => g4) g4) g4) (by kernel_rfl)
noncomputable def c21 : Cfg := cfgOf (P := Tryz.prog) (tab := tab) [e43, e44, e45, e46] false []
def a21_0 (r_ : Nat × Int × Bool × V) : List (Ex × St) := [(Ex.ret, (⟨[(1, (vi r_.2.1)), (2, (V.bp 0 0)), (4, (V.bool r_.2.2.1))], [(0, some (Blk.box t_impl_Node (l15 r_.2.2.2)))], 1, []⟩ : St)), ((Ex.exit 0), (⟨[(1, (vi r_.2.1)), (2, (V.bp 0 0)), (4, V.dead)], [(0, some (Blk.box t_impl_Node (l15 r_.2.2.2)))], 1, []⟩ : St))]
def s21_0 : SS := ⟨[(1, (.one (.int .i64))), (2, (.one (.bp 0 0))), (5, (.one (.int .i64)))], [(.box t_impl_Node q16)], 1, []⟩
noncomputable def l21_0 : LE := le1 4 s21_0 (fun st => spec_NodeOk_l4 (((((gl (bc st 0) 3).length : Nat) : Int) - ((sv st 2).I)).toNat + 1) ((sv st 0).I) ((sv st 2).I) (bc st 0)) a21_0
def a21_1 (r_ : Nat × Bool × V) : List (Ex × St) := [(Ex.ret, (⟨[(2, (V.bp 0 0)), (4, (V.bool r_.2.1))], [(0, some (Blk.box t_impl_Node (l15 r_.2.2)))], 1, []⟩ : St)), ((Ex.exit 2), (⟨[(2, (V.bp 0 0)), (4, V.dead)], [(0, some (Blk.box t_impl_Node (l15 r_.2.2)))], 1, []⟩ : St))]
def s21_1 : SS := ⟨[(1, (.one (.int .i64))), (2, (.one (.bp 0 0))), (6, (.one (.int .i64)))], [(.box t_impl_Node q16)], 1, []⟩
noncomputable def l21_1 : LE := le1 11 s21_1 (fun st => spec_NodeOk_l11 ((((sv st 0).I) - ((sv st 2).I)).toNat + 1) ((sv st 0).I) ((sv st 2).I) (bc st 0)) a21_1
noncomputable def L21 : Loops := ⟨fun k => (look [(4, [1, 2, 5]), (11, [1, 2, 6])] k).getD [], fun _ => [], fun k => (look [(4, [1, 2, 4]), (11, [2, 4])] k).getD [], runL [l21_0, l21_1]⟩
set_option maxRecDepth 100000 in
theorem t21_0 (k_ : Nat) : ∀ (servers1 : Int) (i5 : Int) (b0 : V), Agr id (pk1 a21_0) (spec_NodeOk_l4 k_ servers1 i5 b0) (rounds c21 L21 (lpB Tryz.f21 0) k_ (s21_0.mk' (stv [vi servers1, .dead, vi i5] [bx b0]))) := by
  induction k_ with
  | zero => exact fun _ _ _ => g0
  | succ k_ ih => exact fun _ _ _ => gA (g1 (g1 (g2 fun _ => g1 g4 (g1 (g1 g4 (g1 (g1 (g1 (g1 g4 (ih _ _ _)) g0) g0) (ih _ _ _))) g0)) g0) g4) (by kernel_rfl)
set_option maxRecDepth 100000 in
theorem t21_1 (k_ : Nat) : ∀ (servers1 : Int) (i6 : Int) (b0 : V), Agr id (pk1 a21_1) (spec_NodeOk_l11 k_ servers1 i6 b0) (rounds c21 L21 (lpB Tryz.f21 1) k_ (s21_1.mk' (stv [vi servers1, .dead, vi i6] [bx b0]))) := by
  induction k_ with
  | zero => exact fun _ _ _ => g0
  | succ k_ ih => exact fun _ _ _ => gA (g1 (g1 (g1 (g1 g4 (g1 (g1 g4 (g1 (g1 g4 (g1 (g1 g4 (g1 (g1 (g1 g4 (g1 (g1 g4 (g1 (g1 (g1 g4 (ih _ _ _)) g0) (ih _ _ _))) g0)) g0) (g1 (g1 (g1 g4 (ih _ _ _)) g0) (ih _ _ _)))) g0)) g0)) g0)) g0) (g1 (g1 (g1 g4 (g1 (g1 g4 (g1 (g1 (g1 g4 (ih _ _ _)) g0) (ih _ _ _))) g0)) g0) (g1 (g1 (g1 g4 (ih _ _ _)) g0) (ih _ _ _)))) g4) (by kernel_rfl)
theorem o21 : LoopsOk c21 L21 (bodyOf Tryz.f21) := GoodAll.ok (l := [l21_0, l21_1]) (.cons 0 (by kernel_rfl) (gd1 (fun st => ((((gl (bc st 0) 3).length : Nat) : Int) - ((sv st 2).I)).toNat + 1) (fun st => t21_0 _ _ _ _) fun st => by kernel_rfl) (.cons 1 (by kernel_rfl) (gd1 (fun st => (((sv st 0).I) - ((sv st 2).I)).toNat + 1) (fun st => t21_1 _ _ _ _) fun st => by kernel_rfl) (.nil))) rfl
set_option maxRecDepth 100000 in
noncomputable def e21 : En Tryz.prog tab := enP base [e43, e44, e45, e46] false [] Tryz.func21 (L := L21) o21 [(.agg q16), (.one (.int .i64))] (fun a => spec_NodeOk (rd a 0) ((rd a 1).I)) (fun r_ : Bool => ((V.bool r_), [])) [] [] [none, none] false (by kernel_rfl) fun _ => gA (g1 g4 (g1 g4 (g1 g4 (g1 g4 (g1 g4 (g1 g4 (g1 g4 (g1 g4 (g1 g4 (g1 g4 (g1 g4 (g1 g4 (g1 g4 (g1 g4 (g1 g4 (g1 g4 (g2 fun _ => g1 g4 (g1 (g1 g4 (g1 g4 (g2 fun _ => g1 g4 (g1 g4 g4)))) (g2 fun _ => g1 g4 (g1 g4 g4)))))))))))))))))))) (by kernel_rfl)
noncomputable def e47 : En Tryz.prog tab := enT base [] false [] Tryz.func47 noLo [(.one (.int .i64))] (fun a => spec_l3server ((rd a 0).I)) (fun r_ : Bool => ((V.bool r_), [])) [] [] [none] false (by kernel_rfl) fun _ => gT (g5 g7 g7) (by kernel_rfl)
noncomputable def e48 : En Tryz.prog tab := enT base [] false [] Tryz.func48 noLo [(.one (.int .i64))] (fun a => spec_l3place ((rd a 0).I)) (fun r_ : Bool => ((V.bool r_), [])) [] [] [none] false (by kernel_rfl) fun _ => gT (g5 g7 g7) (by kernel_rfl)
noncomputable def c22 : Cfg := cfgOf (P := Tryz.prog) (tab := tab) [e47, e44, e48, e46] false []
def a22_0 (r_ : Nat × Bool × V) : List (Ex × St) := [(Ex.ret, (⟨[(1, (V.bp 0 0)), (2, (V.bool r_.2.1))], [(0, some (Blk.box t_impl_Msg (l17 r_.2.2)))], 1, []⟩ : St)), ((Ex.exit 0), (⟨[(1, (V.bp 0 0)), (2, V.dead)], [(0, some (Blk.box t_impl_Msg (l17 r_.2.2)))], 1, []⟩ : St))]
def s22_0 : SS := ⟨[(1, (.one (.bp 0 0))), (3, (.one (.int .i64)))], [(.box t_impl_Msg q18)], 1, []⟩
noncomputable def l22_0 : LE := le1 6 s22_0 (fun st => spec_MsgOk_l6 (((((gl (bc st 0) 6).length : Nat) : Int) - ((sv st 1).I)).toNat + 1) ((sv st 1).I) (bc st 0)) a22_0
noncomputable def L22 : Loops := ⟨fun k => (look [(6, [1, 3])] k).getD [], fun _ => [], fun k => (look [(6, [1, 2])] k).getD [], runL [l22_0]⟩
set_option maxRecDepth 100000 in
theorem t22_0 (k_ : Nat) : ∀ (i3 : Int) (b0 : V), Agr id (pk1 a22_0) (spec_MsgOk_l6 k_ i3 b0) (rounds c22 L22 (lpB Tryz.f22 0) k_ (s22_0.mk' (stv [.dead, vi i3] [bx b0]))) := by
  induction k_ with
  | zero => exact fun _ _ => g0
  | succ k_ ih => exact fun _ _ => gA (g1 (g1 (g2 fun _ => g1 g4 (g1 (g1 g4 (g1 (g1 (g1 (g1 g4 (g1 (g1 g4 (ih _ _)) g0)) g0) g0) (g1 (g1 g4 (ih _ _)) g0))) g0)) g0) g4) (by kernel_rfl)
theorem o22 : LoopsOk c22 L22 (bodyOf Tryz.f22) := GoodAll.ok (l := [l22_0]) (.cons 0 (by kernel_rfl) (gd1 (fun st => ((((gl (bc st 0) 6).length : Nat) : Int) - ((sv st 1).I)).toNat + 1) (fun st => t22_0 _ _ _) fun st => by kernel_rfl) (.nil)) rfl
set_option maxRecDepth 100000 in
noncomputable def e22 : En Tryz.prog tab := enP base [e47, e44, e48, e46] false [] Tryz.func22 (L := L22) o22 [(.agg q18)] (fun a => spec_MsgOk (rd a 0)) (fun r_ : Bool => ((V.bool r_), [])) [] [] [none] false (by kernel_rfl) fun _ => gA (g1 g4 (g1 g4 (g1 g4 (g1 g4 (g1 g4 (g1 g4 (g1 g4 (g1 g4 (g1 g4 (g1 g4 (g1 g4 (g1 g4 (g1 g4 (g1 (g1 (g1 g4 (g2 fun _ => g1 g4 (g1 (g1 (g1 g4 g4) g4) (g1 (g1 (g1 (g1 g4 g4) g4) g4) (g1 g4 (g1 (g1 g4 g4) g4)))))) (g2 fun _ => g1 g4 (g1 (g1 (g1 g4 g4) g4) (g1 (g1 (g1 (g1 g4 g4) g4) g4) (g1 g4 (g1 (g1 g4 g4) g4)))))) (g2 fun _ => g1 g4 (g1 (g1 (g1 g4 g4) g4) (g1 (g1 (g1 (g1 g4 g4) g4) g4) (g1 g4 (g1 (g1 g4 g4) g4))))))))))))))))))) (by kernel_rfl)
noncomputable def e74 : En Tryz.prog tab := enP base [] false [] Tryz.func74 noLo [(.agg q2)] (fun a => spec_l3ownItem (rd a 0)) (fun r_ : V => ((h9 r_), [])) [q10] [] [none] false (by kernel_rfl) fun _ => gA (g1 (g1 g4 g0) g0) (by kernel_rfl)
noncomputable def c49 : Cfg := cfgOf (P := Tryz.prog) (tab := tab) [e74] false []
def a49_0 (r_ : List V) : List (Ex × St) := [((Ex.exit 0), (⟨[(3, (vs 0 t_impl_Item))], [(0, some (Blk.row t_impl_Item true r_))], 1, []⟩ : St))]
def s49_0 : SS := ⟨[(0, (.one (.inl t_impl_Item))), (3, (.one (.sl 0 t_impl_Item))), (4, (.one (.int .i64)))], [(.row t_impl_Item true)], 1, []⟩
noncomputable def l49_0 : LE := le0 3 s49_0 (fun st => spec_l3ownItems_l3 ((((((sv st 0).L).length : Nat) : Int) - ((sv st 2).I)).toNat + 1) ((sv st 0).L) ((sv st 2).I) (br st 0)) a49_0
noncomputable def L49 : Loops := ⟨fun k => (look [(3, [0, 3, 4])] k).getD [], fun k => (look [(3, [⟨3, none, true⟩])] k).getD [], fun k => (look [(3, [3])] k).getD [], runL [l49_0]⟩
theorem t49_0 (k_ : Nat) : ∀ (l0 : List V) (i4 : Int) (r0 : List V), Agr id (pk0 a49_0) (spec_l3ownItems_l3 k_ l0 i4 r0) (rounds c49 L49 (lpB Tryz.f49 0) k_ (s49_0.mk' (stv [V.inl 0 l0, .dead, vi i4] [rb r0]))) := by
  induction k_ with
  | zero => exact fun _ _ _ => g0
  | succ k_ ih => exact fun _ _ _ => gA (g1 (g1 (g2 fun _ => g1 (ih _ _ _) g0) g0) g4) (by kernel_rfl)
theorem o49 : LoopsOk c49 L49 (bodyOf Tryz.f49) := GoodAll.ok (l := [l49_0]) (.cons 0 (by kernel_rfl) (gd0 (fun st => (((((sv st 0).L).length : Nat) : Int) - ((sv st 2).I)).toNat + 1) (fun st => t49_0 _ _ _ _) fun st => by kernel_rfl) (.nil)) rfl
noncomputable def e49 : En Tryz.prog tab := enP base [e74] false [] Tryz.func49 (L := L49) o49 [(.one (.inl t_impl_Item))] (fun a => spec_l3ownItems ((rd a 0).L)) (fun r_ : List V => ((V.rr t_impl_Item true r_), [])) [[(.rr t_impl_Item true)]] [] [some t_impl_Item] false (by kernel_rfl) fun _ => gA (g2 fun _ => g4) (by kernel_rfl)
noncomputable def e23 : En Tryz.prog tab := enP base [e49] false [] Tryz.func23 noLo [(.agg q16)] (fun a => spec_l4own (rd a 0)) (fun r_ : V => ((h11 r_), [])) [q12] [] [none] false (by kernel_rfl) fun _ => gA (g2 fun _ => g1 (g1 (g1 g4 g0) g0) g0) (by kernel_rfl)
noncomputable def c50 : Cfg := cfgOf (P := Tryz.prog) (tab := tab) [] false []
def a50_0 (r_ : V × List V × List V × List V × List V) : List (Ex × St) := [((Ex.exit 0), (⟨[], [(0, some (Blk.box t_impl_Node (l19 r_.1))), (1, some (Blk.row t_impl_Item true r_.2.1)), (2, some (Blk.row t_bool true r_.2.2.1)), (3, some (Blk.row t_int' true r_.2.2.2.1)), (4, some (Blk.row t_int' true r_.2.2.2.2))], 5, [0]⟩ : St))]
def s50_0 : SS := ⟨[(0, (.one (.bp 0 0))), (4, (.one (.int .i64)))], [(.box t_impl_Node q20), (.row t_impl_Item true), (.row t_bool true), (.row t_int' true), (.row t_int' true)], 5, [0]⟩
noncomputable def l50_0 : LE := le0 6 s50_0 (fun st => spec_l4follow_l6 (((((br st 2).length : Nat) : Int) - ((sv st 1).I)).toNat + 1) ((sv st 1).I) (bc st 0) (br st 1) (br st 2) (br st 3) (br st 4)) a50_0
noncomputable def L50 : Loops := ⟨fun k => (look [(6, [0, 4])] k).getD [], fun _ => [], fun k => (look [(6, [])] k).getD [], runL [l50_0]⟩
theorem t50_0 (k_ : Nat) : ∀ (i4 : Int) (b0 : V) (r1 : List V) (r2 : List V) (r3 : List V) (r4 : List V), Agr id (pk0 a50_0) (spec_l4follow_l6 k_ i4 b0 r1 r2 r3 r4) (rounds c50 L50 (lpB Tryz.f50 0) k_ (s50_0.mk' (stv [.dead, vi i4] [bx b0, rb r1, rb r2, rb r3, rb r4]))) := by
  induction k_ with
  | zero => exact fun _ _ _ _ _ _ => g0
  | succ k_ ih => exact fun _ _ _ _ _ _ => gA (g1 (g1 (g1 (g1 (ih _ _ _ _ _ _) g0) g0) g0) g4) (by kernel_rfl)
theorem o50 : LoopsOk c50 L50 (bodyOf Tryz.f50) := GoodAll.ok (l := [l50_0]) (.cons 0 (by kernel_rfl) (gd0 (fun st => ((((br st 2).length : Nat) : Int) - ((sv st 1).I)).toNat + 1) (fun st => t50_0 _ _ _ _ _ _ _) fun st => by kernel_rfl) (.nil)) rfl
noncomputable def e50 : En Tryz.prog tab := enP base [] false [] Tryz.func50 (L := L50) o50 [(.rf t_impl_Node q21), (.one (.int .i64))] (fun a => spec_l4follow ((rd a 0).unbox) ((rd a 1).I)) (fun r_ : V => ((V.tup []), [(V.rf t_impl_Node (l22 r_))])) [] [q12] [none, none] false (by kernel_rfl) fun _ => gA (g1 (g2 fun _ => g4) (g2 fun _ => g4)) (by kernel_rfl)
noncomputable def e75 : En Tryz.prog tab := enP base [] false [] Tryz.func75 noLo [(.ep q16 0), (.one (.int .i64))] (fun a => spec_l4termAt ((rd a 0).unbox) ((rd a 1).I)) (fun r_ : Int => ((vi r_), [])) [] [] [none, none] false (by kernel_rfl) fun _ => gA (g1 g4 (g1 g4 (g1 g4 g0))) (by kernel_rfl)
set_option maxRecDepth 100000 in
noncomputable def e51 : En Tryz.prog tab := enP base [e75] false [75] Tryz.func51 noLo [(.rf t_impl_Node q21), (.agg q18)] (fun a => spec_l4vote ((rd a 0).unbox) (rd a 1)) (fun r_ : List V × V => ((V.rr t_impl_Msg true r_.1), [(V.rf t_impl_Node (l22 r_.2))])) [[(.rr t_impl_Msg true)]] [q12] [none, none] false (by kernel_rfl) fun _ => gA (g2 fun _ => g1 (g1 (g1 (g1 g4 (g1 g4 g4)) g4) g4) (g1 (g1 (g1 (g1 (g1 g4 g4) (g1 (g1 g4 g4) g4)) g4) g4) (g1 (g1 (g1 g4 (g1 g4 g4)) g4) g4))) (by kernel_rfl)
noncomputable def e76 : En Tryz.prog tab := enT base [] false [] Tryz.func76 noLo [(.one (.int .i64)), (.one (.int .i64))] (fun a => spec_l4most ((rd a 0).I) ((rd a 1).I)) (fun r_ : Bool => ((V.bool r_), [])) [] [] [none, none] false (by kernel_rfl) fun _ => gT g7 (by kernel_rfl)
noncomputable def c77 : Cfg := cfgOf (P := Tryz.prog) (tab := tab) [e76, e75] false [75]
def a77_0 (r_ : Int × Int × V × List V × List V × List V × List V) : List (Ex × St) := [((Ex.exit 2), (⟨[(0, (V.bp 0 0)), (2, (vi r_.1)), (3, (vi r_.2.1))], [(0, some (Blk.box t_impl_Node (l19 r_.2.2.1))), (1, some (Blk.row t_impl_Item true r_.2.2.2.1)), (2, some (Blk.row t_bool true r_.2.2.2.2.1)), (3, some (Blk.row t_int' true r_.2.2.2.2.2.1)), (4, some (Blk.row t_int' true r_.2.2.2.2.2.2))], 5, [0]⟩ : St))]
def s77_0 : SS := ⟨[(0, (.one (.bp 0 0))), (2, (.one (.int .i64))), (3, (.one (.int .i64))), (4, (.one (.int .i64)))], [(.box t_impl_Node q20), (.row t_impl_Item true), (.row t_bool true), (.row t_int' true), (.row t_int' true)], 5, [0]⟩
noncomputable def l77_0 : LE := le0 7 s77_0 (fun st => spec_l4commit_l7 (((((br st 4).length : Nat) : Int) - ((sv st 3).I)).toNat + 1) ((sv st 1).I) ((sv st 2).I) ((sv st 3).I) (bc st 0) (br st 1) (br st 2) (br st 3) (br st 4)) a77_0
def a77_1 (r_ : Nat × V × List V × List V × List V × List V) : List (Ex × St) := [(Ex.ret, (⟨[], [(0, some (Blk.box t_impl_Node (l19 r_.2.1))), (1, some (Blk.row t_impl_Item true r_.2.2.1)), (2, some (Blk.row t_bool true r_.2.2.2.1)), (3, some (Blk.row t_int' true r_.2.2.2.2.1)), (4, some (Blk.row t_int' true r_.2.2.2.2.2))], 5, [0]⟩ : St)), ((Ex.exit 0), (⟨[], [(0, some (Blk.box t_impl_Node (l19 r_.2.1))), (1, some (Blk.row t_impl_Item true r_.2.2.1)), (2, some (Blk.row t_bool true r_.2.2.2.1)), (3, some (Blk.row t_int' true r_.2.2.2.2.1)), (4, some (Blk.row t_int' true r_.2.2.2.2.2))], 5, [0]⟩ : St))]
def s77_1 : SS := ⟨[(0, (.one (.bp 0 0))), (2, (.one (.int .i64)))], [(.box t_impl_Node q20), (.row t_impl_Item true), (.row t_bool true), (.row t_int' true), (.row t_int' true)], 5, [0]⟩
noncomputable def l77_1 : LE := le1 3 s77_1 (fun st => spec_l4commit_l3 ((((sv st 1).I) - (gi (bc st 0) 4)).toNat + 1) ((sv st 1).I) (bc st 0) (br st 1) (br st 2) (br st 3) (br st 4)) a77_1
noncomputable def L77 : Loops := ⟨fun k => (look [(3, [0, 2]), (7, [0, 2, 3, 4])] k).getD [], fun _ => [], fun k => (look [(3, []), (7, [0, 2, 3])] k).getD [], runL [l77_0, l77_1]⟩
theorem t77_0 (k_ : Nat) : ∀ (p2 : Int) (k3 : Int) (i4 : Int) (b0 : V) (r1 : List V) (r2 : List V) (r3 : List V) (r4 : List V), Agr id (pk0 a77_0) (spec_l4commit_l7 k_ p2 k3 i4 b0 r1 r2 r3 r4) (rounds c77 L77 (lpB Tryz.f77 1) k_ (s77_0.mk' (stv [.dead, vi p2, vi k3, vi i4] [bx b0, rb r1, rb r2, rb r3, rb r4]))) := by
  induction k_ with
  | zero => exact fun _ _ _ _ _ _ _ _ => g0
  | succ k_ ih => exact fun _ _ _ _ _ _ _ _ => gA (g1 (g1 (g1 (ih _ _ _ _ _ _ _ _) (ih _ _ _ _ _ _ _ _)) g0) g4) (by kernel_rfl)
theorem t77_1 (k_ : Nat) : ∀ (p2 : Int) (b0 : V) (r1 : List V) (r2 : List V) (r3 : List V) (r4 : List V), Agr id (pk1 a77_1) (spec_l4commit_l3 k_ p2 b0 r1 r2 r3 r4) (rounds c77 L77 (lpB Tryz.f77 0) k_ (s77_1.mk' (stv [.dead, vi p2] [bx b0, rb r1, rb r2, rb r3, rb r4]))) := by
  induction k_ with
  | zero => exact fun _ _ _ _ _ _ => g0
  | succ k_ ih => exact fun _ _ _ _ _ _ => gA (g1 (g2 fun _ => g1 (g2 fun _ => g1 g4 (ih _ _ _ _ _ _)) (ih _ _ _ _ _ _)) g4) (by kernel_rfl)
theorem o77 : LoopsOk c77 L77 (bodyOf Tryz.f77) := GoodAll.ok (l := [l77_0, l77_1]) (.cons 1 (by kernel_rfl) (gd0 (fun st => ((((br st 4).length : Nat) : Int) - ((sv st 3).I)).toNat + 1) (fun st => t77_0 _ _ _ _ _ _ _ _ _) fun st => by kernel_rfl) (.cons 0 (by kernel_rfl) (gd1 (fun st => (((sv st 1).I) - (gi (bc st 0) 4)).toNat + 1) (fun st => t77_1 _ _ _ _ _ _ _) fun st => by kernel_rfl) (.nil))) rfl
noncomputable def e77 : En Tryz.prog tab := enP base [e76, e75] false [75] Tryz.func77 (L := L77) o77 [(.rf t_impl_Node q21)] (fun a => spec_l4commit ((rd a 0).unbox)) (fun r_ : V => ((V.tup []), [(V.rf t_impl_Node (l22 r_))])) [] [q12] [none] false (by kernel_rfl) fun _ => gA (g1 (g1 (g2 fun _ => g1 g4 g4) g0) g0) (by kernel_rfl)
noncomputable def c79v1 : Cfg := cfgOf (P := Tryz.prog) (tab := tab) [e75] false [75]
def a79v1_0 (r_ : V × V × V × List V × List V × List V × List V × List V × List V) : List (Ex × St) := [((Ex.exit 0), (⟨[(4, (V.bp 1 0)), (6, (V.bp 2 0))], [(0, some (Blk.box t_impl_Node (l23 r_.1))), (1, some (Blk.box t_impl_Msg (l24 r_.2.1))), (2, some (Blk.box t_impl_Msg (l25 r_.2.2.1))), (3, some (Blk.row t_impl_Item true r_.2.2.2.1)), (4, some (Blk.row t_bool true r_.2.2.2.2.1)), (5, some (Blk.row t_int' true r_.2.2.2.2.2.1)), (6, some (Blk.row t_int' true r_.2.2.2.2.2.2.1)), (7, some (Blk.row t_impl_Item true r_.2.2.2.2.2.2.2.1)), (8, some (Blk.row t_impl_Item false r_.2.2.2.2.2.2.2.2))], 9, [0]⟩ : St))]
def s79v1_0 : SS := ⟨[(0, (.one (.bp 0 0))), (4, (.one (.bp 1 0))), (6, (.one (.bp 2 0))), (7, (.one (.int .i64)))], [(.box t_impl_Node q26), (.box t_impl_Msg q27), (.box t_impl_Msg q28), (.row t_impl_Item true), (.row t_bool true), (.row t_int' true), (.row t_int' true), (.row t_impl_Item true), (.row t_impl_Item false)], 9, [0]⟩
noncomputable def l79v1_0 : LE := le0 4 s79v1_0 (fun st => spec_l4add_v1_l4 (((((br st 3).length : Nat) : Int) - ((sv st 3).I)).toNat + 1) ((sv st 3).I) (bc st 0) (bc st 1) (bc st 2) (br st 3) (br st 4) (br st 5) (br st 6) (br st 7) (br st 8)) a79v1_0
noncomputable def L79v1 : Loops := ⟨fun k => (look [(4, [0, 4, 6, 7])] k).getD [], fun k => (look [(4, [⟨4, some 6, true⟩, ⟨6, some 6, false⟩])] k).getD [], fun k => (look [(4, [4, 6])] k).getD [], runL [l79v1_0]⟩
theorem t79v1_0 (k_ : Nat) : ∀ (i7 : Int) (b0 : V) (b1 : V) (b2 : V) (r3 : List V) (r4 : List V) (r5 : List V) (r6 : List V) (r7 : List V) (r8 : List V), Agr id (pk0 a79v1_0) (spec_l4add_v1_l4 k_ i7 b0 b1 b2 r3 r4 r5 r6 r7 r8) (rounds c79v1 L79v1 (lpB Tryz.f79 0) k_ (s79v1_0.mk' (stv [.dead, .dead, .dead, vi i7] [bx b0, bx b1, bx b2, rb r3, rb r4, rb r5, rb r6, rb r7, rb r8]))) := by
  induction k_ with
  | zero => exact fun _ _ _ _ _ _ _ _ _ _ => g0
  | succ k_ ih => exact fun _ _ _ _ _ _ _ _ _ _ => gA (g1 (g1 (g1 (g1 (ih _ _ _ _ _ _ _ _ _ _) g0) g0) g4) g4) (by kernel_rfl)
theorem o79v1 : LoopsOk c79v1 L79v1 (bodyOf Tryz.f79) := GoodAll.ok (l := [l79v1_0]) (.cons 0 (by kernel_rfl) (gd0 (fun st => ((((br st 3).length : Nat) : Int) - ((sv st 3).I)).toNat + 1) (fun st => t79v1_0 _ _ _ _ _ _ _ _ _ _ _) fun st => by kernel_rfl) (.nil)) rfl
noncomputable def e79v1 : En Tryz.prog tab := enP base [e75] false [75] Tryz.func79 (L := L79v1) o79v1 [(.rf t_impl_Node q21), (.one (.int .i64))] (fun a => spec_l4add_v1 ((rd a 0).unbox) ((rd a 1).I)) (fun r_ : V × V => ((h29 r_.1), [(V.rf t_impl_Node (l22 r_.2))])) [q30] [q12] [none, none] false (by kernel_rfl) fun _ => gA (g1 (g2 fun _ => g2 fun _ => g4) g0) (by kernel_rfl)
noncomputable def c78v1 : Cfg := cfgOf (P := Tryz.prog) (tab := tab) [e79v1] false []
def a78v1_0 (r_ : V × List V × List V × List V × List V × List V) : List (Ex × St) := [((Ex.exit 0), (⟨[(3, (vs 1 t_impl_Msg))], [(0, some (Blk.box t_impl_Node (l31 r_.1))), (1, some (Blk.row t_impl_Msg false r_.2.1)), (2, some (Blk.row t_impl_Item true r_.2.2.1)), (3, some (Blk.row t_bool true r_.2.2.2.1)), (4, some (Blk.row t_int' true r_.2.2.2.2.1)), (5, some (Blk.row t_int' true r_.2.2.2.2.2))], 6, [0]⟩ : St))]
def s78v1_0 : SS := ⟨[(0, (.one (.bp 0 0))), (3, (.one (.sl 1 t_impl_Msg))), (4, (.one (.int .i64)))], [(.box t_impl_Node q32), (.row t_impl_Msg false), (.row t_impl_Item true), (.row t_bool true), (.row t_int' true), (.row t_int' true)], 6, [0]⟩
noncomputable def l78v1_0 : LE := le0 3 s78v1_0 (fun st => spec_l4all_v1_l3 (((((br st 3).length : Nat) : Int) - ((sv st 2).I)).toNat + 1) ((sv st 2).I) (bc st 0) (br st 1) (br st 2) (br st 3) (br st 4) (br st 5)) a78v1_0
noncomputable def L78v1 : Loops := ⟨fun k => (look [(3, [0, 3, 4])] k).getD [], fun k => (look [(3, [⟨3, none, false⟩])] k).getD [], fun k => (look [(3, [3])] k).getD [], runL [l78v1_0]⟩
theorem t78v1_0 (k_ : Nat) : ∀ (i4 : Int) (b0 : V) (r1 : List V) (r2 : List V) (r3 : List V) (r4 : List V) (r5 : List V), Agr id (pk0 a78v1_0) (spec_l4all_v1_l3 k_ i4 b0 r1 r2 r3 r4 r5) (rounds c78v1 L78v1 (lpB Tryz.f78 0) k_ (s78v1_0.mk' (stv [.dead, .dead, vi i4] [bx b0, rb r1, rb r2, rb r3, rb r4, rb r5]))) := by
  induction k_ with
  | zero => exact fun _ _ _ _ _ _ _ => g0
  | succ k_ ih => exact fun _ _ _ _ _ _ _ => gA (g1 (g1 (g2 fun _ => g1 (ih _ _ _ _ _ _ _) g0) (ih _ _ _ _ _ _ _)) g4) (by kernel_rfl)
theorem o78v1 : LoopsOk c78v1 L78v1 (bodyOf Tryz.f78) := GoodAll.ok (l := [l78v1_0]) (.cons 0 (by kernel_rfl) (gd0 (fun st => ((((br st 3).length : Nat) : Int) - ((sv st 2).I)).toNat + 1) (fun st => t78v1_0 _ _ _ _ _ _ _ _) fun st => by kernel_rfl) (.nil)) rfl
noncomputable def e78v1 : En Tryz.prog tab := enP base [e79v1] false [] Tryz.func78 (L := L78v1) o78v1 [(.rf t_impl_Node q21)] (fun a => spec_l4all_v1 ((rd a 0).unbox)) (fun r_ : List V × V => ((V.rr t_impl_Msg false r_.1), [(V.rf t_impl_Node (l22 r_.2))])) [[(.rr t_impl_Msg false)]] [q12] [none] false (by kernel_rfl) fun _ => gA (g2 fun _ => g4) (by kernel_rfl)
noncomputable def c52 : Cfg := cfgOf (P := Tryz.prog) (tab := tab) [e76, e77, e78v1] false []
def a52_0 (r_ : Int × V × List V × List V × List V × List V) : List (Ex × St) := [((Ex.exit 0), (⟨[(0, (V.bp 0 0)), (3, (vi r_.1))], [(0, some (Blk.box t_impl_Node (l19 r_.2.1))), (1, some (Blk.row t_impl_Item true r_.2.2.1)), (2, some (Blk.row t_bool true r_.2.2.2.1)), (3, some (Blk.row t_int' true r_.2.2.2.2.1)), (4, some (Blk.row t_int' true r_.2.2.2.2.2))], 5, [0]⟩ : St))]
def s52_0 : SS := ⟨[(0, (.one (.bp 0 0))), (3, (.one (.int .i64))), (4, (.one (.int .i64)))], [(.box t_impl_Node q20), (.row t_impl_Item true), (.row t_bool true), (.row t_int' true), (.row t_int' true)], 5, [0]⟩
noncomputable def l52_0 : LE := le0 3 s52_0 (fun st => spec_l4lead_l3 (((((br st 2).length : Nat) : Int) - ((sv st 2).I)).toNat + 1) ((sv st 1).I) ((sv st 2).I) (bc st 0) (br st 1) (br st 2) (br st 3) (br st 4)) a52_0
def a52_1 (r_ : V × List V × List V × List V × List V) : List (Ex × St) := [((Ex.exit 2), (⟨[(0, (V.bp 0 0))], [(0, some (Blk.box t_impl_Node (l19 r_.1))), (1, some (Blk.row t_impl_Item true r_.2.1)), (2, some (Blk.row t_bool true r_.2.2.1)), (3, some (Blk.row t_int' true r_.2.2.2.1)), (4, some (Blk.row t_int' true r_.2.2.2.2))], 5, [0]⟩ : St))]
def s52_1 : SS := ⟨[(0, (.one (.bp 0 0))), (5, (.one (.int .i64)))], [(.box t_impl_Node q20), (.row t_impl_Item true), (.row t_bool true), (.row t_int' true), (.row t_int' true)], 5, [0]⟩
noncomputable def l52_1 : LE := le0 13 s52_1 (fun st => spec_l4lead_l13 (((((br st 3).length : Nat) : Int) - ((sv st 1).I)).toNat + 1) ((sv st 1).I) (bc st 0) (br st 1) (br st 2) (br st 3) (br st 4)) a52_1
noncomputable def L52 : Loops := ⟨fun k => (look [(3, [0, 3, 4]), (13, [0, 5])] k).getD [], fun _ => [], fun k => (look [(3, [0, 3]), (13, [0])] k).getD [], runL [l52_0, l52_1]⟩
theorem t52_0 (k_ : Nat) : ∀ (k3 : Int) (i4 : Int) (b0 : V) (r1 : List V) (r2 : List V) (r3 : List V) (r4 : List V), Agr id (pk0 a52_0) (spec_l4lead_l3 k_ k3 i4 b0 r1 r2 r3 r4) (rounds c52 L52 (lpB Tryz.f52 0) k_ (s52_0.mk' (stv [.dead, vi k3, vi i4] [bx b0, rb r1, rb r2, rb r3, rb r4]))) := by
  induction k_ with
  | zero => exact fun _ _ _ _ _ _ _ => g0
  | succ k_ ih => exact fun _ _ _ _ _ _ _ => gA (g1 (g1 (g1 (ih _ _ _ _ _ _ _) (ih _ _ _ _ _ _ _)) g0) g4) (by kernel_rfl)
theorem t52_1 (k_ : Nat) : ∀ (i5 : Int) (b0 : V) (r1 : List V) (r2 : List V) (r3 : List V) (r4 : List V), Agr id (pk0 a52_1) (spec_l4lead_l13 k_ i5 b0 r1 r2 r3 r4) (rounds c52 L52 (lpB Tryz.f52 1) k_ (s52_1.mk' (stv [.dead, vi i5] [bx b0, rb r1, rb r2, rb r3, rb r4]))) := by
  induction k_ with
  | zero => exact fun _ _ _ _ _ _ => g0
  | succ k_ ih => exact fun _ _ _ _ _ _ => gA (g1 (g1 (g1 (ih _ _ _ _ _ _) g0) g0) g4) (by kernel_rfl)
theorem o52 : LoopsOk c52 L52 (bodyOf Tryz.f52) := GoodAll.ok (l := [l52_0, l52_1]) (.cons 0 (by kernel_rfl) (gd0 (fun st => ((((br st 2).length : Nat) : Int) - ((sv st 2).I)).toNat + 1) (fun st => t52_0 _ _ _ _ _ _ _ _) fun st => by kernel_rfl) (.cons 1 (by kernel_rfl) (gd0 (fun st => ((((br st 3).length : Nat) : Int) - ((sv st 1).I)).toNat + 1) (fun st => t52_1 _ _ _ _ _ _ _) fun st => by kernel_rfl) (.nil))) rfl
set_option maxRecDepth 100000 in
noncomputable def e52 : En Tryz.prog tab := enP base [e76, e77, e78v1] false [] Tryz.func52 (L := L52) o52 [(.rf t_impl_Node q21)] (fun a => spec_l4lead ((rd a 0).unbox)) (fun r_ : List V × V => ((V.rr t_impl_Msg false r_.1), [(V.rf t_impl_Node (l22 r_.2))])) [[(.rr t_impl_Msg false)]] [q12] [none] false (by kernel_rfl) fun _ => gA (g2 fun _ => g1 g4 (g2 fun _ => g1 (g1 (g1 (g2 fun _ => g2 fun _ => g4) g0) g0) (g2 fun _ => g2 fun _ => g4))) (by kernel_rfl)
noncomputable def c53 : Cfg := cfgOf (P := Tryz.prog) (tab := tab) [e50, e75] false [75]
def a53_0 (r_ : Nat × V × V × List V × List V × List V × List V × List V) : List (Ex × St) := [(Ex.ret, (⟨[(0, (V.bp 0 0)), (3, (V.bp 1 0)), (4, (vs 2 t_impl_Msg))], [(0, some (Blk.box t_impl_Node (l23 r_.2.1))), (1, some (Blk.box t_impl_Msg (l17 r_.2.2.1))), (2, some (Blk.row t_impl_Msg true r_.2.2.2.1)), (3, some (Blk.row t_impl_Item true r_.2.2.2.2.1)), (4, some (Blk.row t_bool true r_.2.2.2.2.2.1)), (5, some (Blk.row t_int' true r_.2.2.2.2.2.2.1)), (6, some (Blk.row t_int' true r_.2.2.2.2.2.2.2))], 7, [0]⟩ : St)), ((Ex.exit 0), (⟨[(0, (V.bp 0 0)), (3, (V.bp 1 0)), (4, V.dead)], [(0, some (Blk.box t_impl_Node (l31 r_.2.1))), (1, some (Blk.box t_impl_Msg (l17 r_.2.2.1))), (2, some (Blk.row t_impl_Item true r_.2.2.2.1)), (3, some (Blk.row t_bool true r_.2.2.2.2.1)), (4, some (Blk.row t_int' true r_.2.2.2.2.2.1)), (5, some (Blk.row t_int' true r_.2.2.2.2.2.2.1))], 6, [0]⟩ : St))]
def s53_0 : SS := ⟨[(0, (.one (.bp 0 0))), (3, (.one (.bp 1 0))), (5, (.one (.bp 2 0))), (6, (.one (.int .i64)))], [(.box t_impl_Node q26), (.box t_impl_Msg q18), (.box t_impl_Msg q27), (.row t_impl_Item true), (.row t_bool true), (.row t_int' true), (.row t_int' true), (.row t_impl_Item true)], 8, [0]⟩
noncomputable def l53_0 : LE := le1 13 s53_0 (fun st => spec_l4take_l13 (((((gl (bc st 1) 6).length : Nat) : Int) - ((sv st 3).I)).toNat + 1) ((sv st 3).I) (bc st 0) (bc st 1) (bc st 2) (br st 3) (br st 4) (br st 5) (br st 6) (br st 7)) a53_0
def a53_1 (r_ : V × V × List V × List V × List V × List V) : List (Ex × St) := [((Ex.exit 2), (⟨[(0, (V.bp 0 0)), (3, (V.bp 1 0))], [(0, some (Blk.box t_impl_Node (l31 r_.1))), (1, some (Blk.box t_impl_Msg (l17 r_.2.1))), (2, some (Blk.row t_impl_Item false r_.2.2.1)), (3, some (Blk.row t_bool true r_.2.2.2.1)), (4, some (Blk.row t_int' true r_.2.2.2.2.1)), (5, some (Blk.row t_int' true r_.2.2.2.2.2))], 6, [0]⟩ : St))]
def s53_1 : SS := ⟨[(0, (.one (.bp 0 0))), (3, (.one (.bp 1 0))), (8, (.one (.int .i64)))], [(.box t_impl_Node q32), (.box t_impl_Msg q18), (.row t_impl_Item false), (.row t_bool true), (.row t_int' true), (.row t_int' true)], 6, [0]⟩
noncomputable def l53_1 : LE := le0 20 s53_1 (fun st => spec_l4take_l20 (((((gl (bc st 1) 6).length : Nat) : Int) - ((sv st 2).I)).toNat + 1) ((sv st 2).I) (bc st 0) (bc st 1) (br st 2) (br st 3) (br st 4) (br st 5)) a53_1
noncomputable def L53 : Loops := ⟨fun k => (look [(13, [0, 3, 5, 6]), (20, [0, 3, 8])] k).getD [], fun k => (look [(13, [⟨5, some 6, true⟩]), (20, [⟨0, some 3, false⟩])] k).getD [], fun k => (look [(13, [0, 3, 4]), (20, [0, 3])] k).getD [], runL [l53_0, l53_1]⟩
theorem t53_0 (k_ : Nat) : ∀ (i6 : Int) (b0 : V) (b1 : V) (b2 : V) (r3 : List V) (r4 : List V) (r5 : List V) (r6 : List V) (r7 : List V), Agr id (pk1 a53_0) (spec_l4take_l13 k_ i6 b0 b1 b2 r3 r4 r5 r6 r7) (rounds c53 L53 (lpB Tryz.f53 0) k_ (s53_0.mk' (stv [.dead, .dead, .dead, vi i6] [bx b0, bx b1, bx b2, rb r3, rb r4, rb r5, rb r6, rb r7]))) := by
  induction k_ with
  | zero => exact fun _ _ _ _ _ _ _ _ _ => g0
  | succ k_ ih => exact fun _ _ _ _ _ _ _ _ _ => gA (g1 (g1 (g1 (g1 (g1 g4 (ih _ _ _ _ _ _ _ _ _)) g0) g0) (ih _ _ _ _ _ _ _ _ _)) g4) (by kernel_rfl)
set_option maxRecDepth 100000 in
theorem t53_1 (k_ : Nat) : ∀ (i8 : Int) (b0 : V) (b1 : V) (r2 : List V) (r3 : List V) (r4 : List V) (r5 : List V), Agr id (pk0 a53_1) (spec_l4take_l20 k_ i8 b0 b1 r2 r3 r4 r5) (rounds c53 L53 (lpB Tryz.f53 1) k_ (s53_1.mk' (stv [.dead, .dead, vi i8] [bx b0, bx b1, rb r2, rb r3, rb r4, rb r5]))) := by
  induction k_ with
  | zero => exact fun _ _ _ _ _ _ _ => g0
  | succ k_ ih => exact fun _ _ _ _ _ _ _ => gA (g1 (g1 (g1 (g1 (g1 (g1 (g1 (g1 (g1 (g1 (g1 (ih _ _ _ _ _ _ _) g0) g0) g0) (ih _ _ _ _ _ _ _)) g0) g0) (g1 (g1 (g1 (g1 (ih _ _ _ _ _ _ _) g0) g0) g0) (ih _ _ _ _ _ _ _))) g0) g0) (g1 (g1 (g1 (g1 (ih _ _ _ _ _ _ _) g0) g0) g0) (ih _ _ _ _ _ _ _))) g4) (by kernel_rfl)
theorem o53 : LoopsOk c53 L53 (bodyOf Tryz.f53) := GoodAll.ok (l := [l53_0, l53_1]) (.cons 0 (by kernel_rfl) (gd1 (fun st => ((((gl (bc st 1) 6).length : Nat) : Int) - ((sv st 3).I)).toNat + 1) (fun st => t53_0 _ _ _ _ _ _ _ _ _ _) fun st => by kernel_rfl) (.cons 1 (by kernel_rfl) (gd0 (fun st => ((((gl (bc st 1) 6).length : Nat) : Int) - ((sv st 2).I)).toNat + 1) (fun st => t53_1 _ _ _ _ _ _ _ _) fun st => by kernel_rfl) (.nil))) rfl
set_option maxRecDepth 100000 in
noncomputable def e53 : En Tryz.prog tab := enP base [e50, e75] false [75] Tryz.func53 (L := L53) o53 [(.rf t_impl_Node q21), (.agg q18)] (fun a => spec_l4take ((rd a 0).unbox) (rd a 1)) (fun r_ : List V × V => ((V.rr t_impl_Msg true r_.1), [(V.rf t_impl_Node (l33 r_.2))])) [[(.rr t_impl_Msg true)]] [q34] [none, none] false (by kernel_rfl) fun _ => gA (g1 g4 (g1 g4 (g2 fun _ => g1 (g1 g4 g4) (g2 fun _ => g1 (g1 g4 g4) (g2 fun _ => g1 g4 (g2 fun _ => g1 (g1 g4 g4) (g1 g4 g4))))))) (by kernel_rfl)
set_option maxRecDepth 100000 in
noncomputable def e54 : En Tryz.prog tab := enP base [e79v1, e77, e78v1] false [] Tryz.func54 noLo [(.rf t_impl_Node q21), (.agg q18)] (fun a => spec_l4ack ((rd a 0).unbox) (rd a 1)) (fun r_ : List V × V => ((V.rr t_impl_Msg false r_.1), [(V.rf t_impl_Node (l22 r_.2))])) [[(.rr t_impl_Msg false)]] [q12] [none, none] false (by kernel_rfl) fun _ => gA (g1 g4 (g1 g4 (g1 (g1 (g1 (g1 (g1 (g1 g4 (g1 (g2 fun _ => g4) g0)) g0) (g1 (g1 g4 (g1 (g2 fun _ => g4) g0)) g0)) (g1 (g1 (g1 g4 (g1 (g2 fun _ => g4) g0)) g0) (g1 (g1 g4 (g1 (g2 fun _ => g4) g0)) g0))) g0) (g1 g4 (g1 (g1 g4 (g1 (g1 (g2 fun _ => g1 (g2 fun _ => g4) (g1 (g1 (g2 fun _ => g4) g4) g0)) g0) g0)) g0))))) (by kernel_rfl)
set_option maxRecDepth 100000 in
noncomputable def e24 : En Tryz.prog tab := enP base [e50, e51, e52, e53, e54] false [] Tryz.func24 noLo [(.rf t_impl_Node q21), (.agg q18)] (fun a => spec_l4hear ((rd a 0).unbox) (rd a 1)) (fun r_ : List V × V => ((V.rr t_impl_Msg false r_.1), [(V.rf t_impl_Node (l33 r_.2))])) [[(.rr t_impl_Msg false)]] [q34] [none, none] false (by kernel_rfl) fun _ => gA (g1 (g2 fun _ => g1 (g2 fun _ => g4) (g1 (g1 g4 (g1 g4 (g1 g4 (g1 (g2 fun _ => g4) g0)))) (g1 (g2 fun _ => g4) (g2 fun _ => g4)))) (g1 (g2 fun _ => g4) (g1 (g1 g4 (g1 g4 (g1 g4 (g1 (g2 fun _ => g4) g0)))) (g1 (g2 fun _ => g4) (g2 fun _ => g4))))) (by kernel_rfl)
noncomputable def c25 : Cfg := cfgOf (P := Tryz.prog) (tab := tab) [e49] false []
def a25_0 (r_ : List V) : List (Ex × St) := [((Ex.exit 0), (⟨[(3, (vs 0 t_impl_Msg))], [(0, some (Blk.row t_impl_Msg true r_))], 1, []⟩ : St))]
def s25_0 : SS := ⟨[(0, (.one (.inl t_impl_Msg))), (3, (.one (.sl 0 t_impl_Msg))), (4, (.one (.int .i64)))], [(.row t_impl_Msg true)], 1, []⟩
noncomputable def l25_0 : LE := le0 3 s25_0 (fun st => spec_l4ownMsgs_l3 ((((((sv st 0).L).length : Nat) : Int) - ((sv st 2).I)).toNat + 1) ((sv st 0).L) ((sv st 2).I) (br st 0)) a25_0
noncomputable def L25 : Loops := ⟨fun k => (look [(3, [0, 3, 4])] k).getD [], fun k => (look [(3, [⟨3, none, true⟩])] k).getD [], fun k => (look [(3, [3])] k).getD [], runL [l25_0]⟩
theorem t25_0 (k_ : Nat) : ∀ (l0 : List V) (i4 : Int) (r0 : List V), Agr id (pk0 a25_0) (spec_l4ownMsgs_l3 k_ l0 i4 r0) (rounds c25 L25 (lpB Tryz.f25 0) k_ (s25_0.mk' (stv [V.inl 0 l0, .dead, vi i4] [rb r0]))) := by
  induction k_ with
  | zero => exact fun _ _ _ => g0
  | succ k_ ih => exact fun _ _ _ => gA (g1 (g1 (g2 fun _ => g1 (ih _ _ _) g0) g0) g4) (by kernel_rfl)
theorem o25 : LoopsOk c25 L25 (bodyOf Tryz.f25) := GoodAll.ok (l := [l25_0]) (.cons 0 (by kernel_rfl) (gd0 (fun st => (((((sv st 0).L).length : Nat) : Int) - ((sv st 2).I)).toNat + 1) (fun st => t25_0 _ _ _ _) fun st => by kernel_rfl) (.nil)) rfl
noncomputable def e25 : En Tryz.prog tab := enP base [e49] false [] Tryz.func25 (L := L25) o25 [(.one (.inl t_impl_Msg))] (fun a => spec_l4ownMsgs ((rd a 0).L)) (fun r_ : List V => ((V.rr t_impl_Msg true r_), [])) [[(.rr t_impl_Msg true)]] [] [some t_impl_Msg] false (by kernel_rfl) fun _ => gA (g2 fun _ => g4) (by kernel_rfl)
set_option maxRecDepth 100000 in
noncomputable def e6 : En Tryz.prog tab := enP base [e21, e22, e23, e24, e25] false [] Tryz.func6 noLo [(.agg q16), (.one (.int .i64)), (.agg q18)] (fun a => spec_Hear (rd a 0) ((rd a 1).I) (rd a 2)) (fun r_ : V × List V => ((V.tup [(h11 r_.1), (V.rr t_impl_Msg true r_.2)]), [])) [q12, [(.rr t_impl_Msg true)]] [] [none, none, none] false (by kernel_rfl) fun _ => gA (g2 fun _ => g1 g4 (g2 fun _ => g1 g4 (g1 g4 (g1 g4 (g2 fun _ => g2 fun _ => g2 fun _ => g2 fun _ => g4))))) (by kernel_rfl)
noncomputable def e57 : En Tryz.prog tab := enT base [] false [] Tryz.func57 noLo [(.one (.int .i64)), (.one (.int .i64)), (.one (.int .i64))] (fun a => impl_within ((rd a 0).I) ((rd a 1).I) ((rd a 2).I)) (fun r_ : Bool => ((V.bool r_), [])) [] [] [none, none, none] false (by kernel_rfl) fun _ => gT (g5 g7 g7) (by kernel_rfl)
noncomputable def e56 : En Tryz.prog tab := enT base [e57] false [] Tryz.func56 noLo [(.one (.int .i64)), (.one (.int .i64))] (fun a => impl_isServer ((rd a 0).I) ((rd a 1).I)) (fun r_ : Bool => ((V.bool r_), [])) [] [] [none, none] false (by kernel_rfl) fun _ => gT (g5 g7 g7) (by kernel_rfl)
noncomputable def e60 : En Tryz.prog tab := enT base [e57] false [] Tryz.func60 noLo [(.one (.int .i64))] (fun a => impl_isTerm ((rd a 0).I)) (fun r_ : Bool => ((V.bool r_), [])) [] [] [none] false (by kernel_rfl) fun _ => gT g7 (by kernel_rfl)
noncomputable def e86 : En Tryz.prog tab := enT base [] false [] Tryz.func86 noLo [] (fun a => impl_noOp) (fun r_ : V => ((h7 r_), [])) [q8] [] [] false (by kernel_rfl) fun _ => gT g7 (by kernel_rfl)
noncomputable def e111 : En Tryz.prog tab := enT base [] false [] Tryz.func111 noLo [(.one (.inl t_byte)), (.one (.inl t_byte))] (fun a => bytes_Equal ((rd a 0).L) ((rd a 1).L)) (fun r_ : Bool => ((V.bool r_), [])) [] [] [some t_byte, some t_byte] false (by kernel_rfl) fun _ => gT g7 (by kernel_rfl)
noncomputable def e106 : En Tryz.prog tab := enT base [e111] false [] Tryz.func106 noLo [(.agg q0), (.agg q0)] (fun a => impl_Op_same (rd a 0) (rd a 1)) (fun r_ : Bool => ((V.bool r_), [])) [] [] [none, none] false (by kernel_rfl) fun _ => gT (g5 (g5 (g5 g7 g7) g7) g7) (by kernel_rfl)
noncomputable def e95 : En Tryz.prog tab := enT base [e106] false [] Tryz.func95 noLo [(.agg q1), (.agg q1)] (fun a => impl_Cmd_same (rd a 0) (rd a 1)) (fun r_ : Bool => ((V.bool r_), [])) [] [] [none, none] false (by kernel_rfl) fun _ => gT (g5 (g5 g7 g7) g7) (by kernel_rfl)
noncomputable def c107 : Cfg := cfgOf (P := Tryz.prog) (tab := tab) [e57] false []
def a107_0 (r_ : Nat × List V × Bool) : List (Ex × St) := [(Ex.ret, (⟨[(0, (V.inl t_byte r_.2.1)), (2, (V.bool r_.2.2))], [], 0, []⟩ : St)), ((Ex.exit 0), (⟨[(0, (V.inl t_byte r_.2.1)), (2, V.dead)], [], 0, []⟩ : St))]
def s107_0 : SS := ⟨[(0, (.one (.inl t_byte))), (5, (.one (.inl t_byte))), (6, (.one (.int .i64))), (7, (.one (.int .i64)))], [], 0, []⟩
noncomputable def l107_0 : LE := le1 2 s107_0 (fun st => impl_KeyOk_l2 ((((sv st 2).I) - ((sv st 3).I)).toNat + 1) ((sv st 0).L) ((sv st 1).L) ((sv st 2).I) ((sv st 3).I)) a107_0
noncomputable def L107 : Loops := ⟨fun k => (look [(2, [0, 5, 6, 7])] k).getD [], fun _ => [], fun k => (look [(2, [0, 2])] k).getD [], runL [l107_0]⟩
set_option maxRecDepth 100000 in
theorem t107_0 (k_ : Nat) : ∀ (b0 : List V) (v5 : List V) (v6 : Int) (v7 : Int), Agr id (pk1 a107_0) (impl_KeyOk_l2 k_ b0 v5 v6 v7) (rounds c107 L107 (lpB Tryz.f107 0) k_ (s107_0.mk' (stv [V.inl 0 b0, V.inl 0 v5, vi v6, vi v7] []))) := by
  induction k_ with
  | zero => exact fun _ _ _ _ => g0
  | succ k_ ih => exact fun _ _ _ _ => gA (g1 (g1 (g1 (g1 g4 (ih _ _ _ _)) (g1 (g1 g4 (ih _ _ _ _)) (ih _ _ _ _))) g0) g4) (by kernel_rfl)
theorem o107 : LoopsOk c107 L107 (bodyOf Tryz.f107) := GoodAll.ok (l := [l107_0]) (.cons 0 (by kernel_rfl) (gd1 (fun st => (((sv st 2).I) - ((sv st 3).I)).toNat + 1) (fun st => t107_0 _ _ _ _ _) fun st => by kernel_rfl) (.nil)) rfl
noncomputable def e107 : En Tryz.prog tab := enP base [e57] false [] Tryz.func107 (L := L107) o107 [(.one (.inl t_byte))] (fun a => impl_KeyOk ((rd a 0).L)) (fun r_ : Bool => ((V.bool r_), [])) [] [] [some t_byte] false (by kernel_rfl) fun _ => gA (g2 fun _ => g1 g4 g4) (by kernel_rfl)
noncomputable def e108 : En Tryz.prog tab := enT base [] false [] Tryz.func108 noLo [(.one (.inl t_byte))] (fun a => impl_isValue ((rd a 0).L)) (fun r_ : Bool => ((V.bool r_), [])) [] [] [some t_byte] false (by kernel_rfl) fun _ => gT g7 (by kernel_rfl)
set_option maxRecDepth 100000 in
noncomputable def e96 : En Tryz.prog tab := enP base [e57, e107, e108] false [] Tryz.func96 noLo [(.agg q0)] (fun a => impl_OpOk (rd a 0)) (fun r_ : Bool => ((V.bool r_), [])) [] [] [none] false (by kernel_rfl) fun _ => gA (g1 (g1 (g1 g4 g4) g4) (g1 (g1 (g2 fun _ => g1 (g1 g4 g4) g4) g4) (g1 (g1 (g2 fun _ => g1 (g1 g4 g4) g4) g4) (g1 (g1 (g2 fun _ => g1 g4 g4) g4) (g1 (g1 (g1 g4 g4) g4) (g1 (g1 (g1 g4 g4) g4) (g1 (g1 (g2 fun _ => g1 (g1 g4 g4) g4) g4) (g1 (g1 (g2 fun _ => g1 g4 g4) g4) g4)))))))) (by kernel_rfl)
noncomputable def e81 : En Tryz.prog tab := enP base [e86, e95, e57, e96] false [] Tryz.func81 noLo [(.agg q1)] (fun a => impl_CmdOk (rd a 0)) (fun r_ : Bool => ((V.bool r_), [])) [] [] [none] false (by kernel_rfl) fun _ => gA (g1 g4 (g1 (g1 (g2 fun _ => g4) g4) g4)) (by kernel_rfl)
noncomputable def e58 : En Tryz.prog tab := enP base [e60, e81] false [] Tryz.func58 noLo [(.agg q2)] (fun a => impl_ItemOk (rd a 0)) (fun r_ : Bool => ((V.bool r_), [])) [] [] [none] false (by kernel_rfl) fun _ => gA (g1 (g2 fun _ => g4) g4) (by kernel_rfl)
noncomputable def c82 : Cfg := cfgOf (P := Tryz.prog) (tab := tab) [] false []
def a82_0 (r_ : Nat × Int) : List (Ex × St) := [(Ex.ret, (⟨[(4, (vi r_.2))], [], 0, []⟩ : St)), ((Ex.exit 0), (⟨[(4, V.dead)], [], 0, []⟩ : St))]
def s82_0 : SS := ⟨[(0, (.one (.inl t_bool))), (1, (.one .bool)), (7, (.one (.int .i64))), (8, (.one (.int .i64)))], [], 0, []⟩
noncomputable def l82_0 : LE := le1 2 s82_0 (fun st => slices_Index_bool_l2 ((((sv st 2).I) - ((sv st 3).I)).toNat + 1) ((sv st 0).L) ((sv st 1).B) ((sv st 2).I) ((sv st 3).I)) a82_0
noncomputable def L82 : Loops := ⟨fun k => (look [(2, [0, 1, 7, 8])] k).getD [], fun _ => [], fun k => (look [(2, [4])] k).getD [], runL [l82_0]⟩
theorem t82_0 (k_ : Nat) : ∀ (s0 : List V) (v1 : Bool) (v7 : Int) (v8 : Int), Agr id (pk1 a82_0) (slices_Index_bool_l2 k_ s0 v1 v7 v8) (rounds c82 L82 (lpB Tryz.f82 0) k_ (s82_0.mk' (stv [V.inl 0 s0, V.bool v1, vi v7, vi v8] []))) := by
  induction k_ with
  | zero => exact fun _ _ _ _ => g0
  | succ k_ ih => exact fun _ _ _ _ => gA (g1 (g1 (g1 g4 (ih _ _ _ _)) g0) g4) (by kernel_rfl)
theorem o82 : LoopsOk c82 L82 (bodyOf Tryz.f82) := GoodAll.ok (l := [l82_0]) (.cons 0 (by kernel_rfl) (gd1 (fun st => (((sv st 2).I) - ((sv st 3).I)).toNat + 1) (fun st => t82_0 _ _ _ _ _) fun st => by kernel_rfl) (.nil)) rfl
noncomputable def e82 : En Tryz.prog tab := enP base [] false [] Tryz.func82 (L := L82) o82 [(.one (.inl t_bool)), (.one .bool)] (fun a => slices_Index_bool ((rd a 0).L) ((rd a 1).B)) (fun r_ : Int => ((vi r_), [])) [] [] [some t_bool, none] false (by kernel_rfl) fun _ => gA (g2 fun _ => g1 g4 g4) (by kernel_rfl)
noncomputable def e59 : En Tryz.prog tab := enP base [e82] false [] Tryz.func59 noLo [(.one (.inl t_bool)), (.one .bool)] (fun a => slices_Contains_bool ((rd a 0).L) ((rd a 1).B)) (fun r_ : Bool => ((V.bool r_), [])) [] [] [some t_bool, none] false (by kernel_rfl) fun _ => gA (g2 fun _ => g4) (by kernel_rfl)
noncomputable def c29 : Cfg := cfgOf (P := Tryz.prog) (tab := tab) [e56, e57, e58, e59] false []
def a29_0 (r_ : Nat × Int × Bool × V) : List (Ex × St) := [(Ex.ret, (⟨[(1, (vi r_.2.1)), (2, (V.bp 0 0)), (4, (V.bool r_.2.2.1))], [(0, some (Blk.box t_impl_Node (l15 r_.2.2.2)))], 1, []⟩ : St)), ((Ex.exit 0), (⟨[(1, (vi r_.2.1)), (2, (V.bp 0 0)), (4, V.dead)], [(0, some (Blk.box t_impl_Node (l15 r_.2.2.2)))], 1, []⟩ : St))]
def s29_0 : SS := ⟨[(1, (.one (.int .i64))), (2, (.one (.bp 0 0))), (5, (.one (.int .i64))), (43, (.one (.inl t_impl_Item))), (44, (.one (.int .i64))), (45, (.one (.int .i64)))], [(.box t_impl_Node q16)], 1, []⟩
noncomputable def l29_0 : LE := le1 5 s29_0 (fun st => impl_NodeOk_l5 ((((sv st 4).I) - ((sv st 5).I)).toNat + 1) ((sv st 0).I) ((sv st 2).I) ((sv st 3).L) ((sv st 4).I) ((sv st 5).I) (bc st 0)) a29_0
def a29_1 (r_ : Nat × Bool) : List (Ex × St) := [(Ex.ret, (⟨[(4, (V.bool r_.2))], [], 0, []⟩ : St)), ((Ex.exit 2), (⟨[(4, V.dead)], [], 0, []⟩ : St))]
def s29_1 : SS := ⟨[(2, (.one (.bp 0 0))), (141, (.one (.int .i64))), (142, (.one (.int .i64)))], [(.box t_impl_Node q16)], 1, []⟩
noncomputable def l29_1 : LE := le1 16 s29_1 (fun st => impl_NodeOk_l16 ((((sv st 1).I) - ((sv st 2).I)).toNat + 1) ((sv st 1).I) ((sv st 2).I) (bc st 0)) a29_1
noncomputable def L29 : Loops := ⟨fun k => (look [(5, [1, 2, 5, 43, 44, 45]), (16, [2, 141, 142])] k).getD [], fun _ => [], fun k => (look [(5, [1, 2, 4]), (16, [4])] k).getD [], runL [l29_0, l29_1]⟩
theorem t29_0 (k_ : Nat) : ∀ (servers1 : Int) (term5 : Int) (v43 : List V) (v44 : Int) (v45 : Int) (b0 : V), Agr id (pk1 a29_0) (impl_NodeOk_l5 k_ servers1 term5 v43 v44 v45 b0) (rounds c29 L29 (lpB Tryz.f29 0) k_ (s29_0.mk' (stv [vi servers1, .dead, vi term5, V.inl 0 v43, vi v44, vi v45] [bx b0]))) := by
  induction k_ with
  | zero => exact fun _ _ _ _ _ _ => g0
  | succ k_ ih => exact fun _ _ _ _ _ _ => gA (g1 (g1 (g2 fun _ => g1 g4 (g1 g4 (ih _ _ _ _ _ _))) g0) g4) (by kernel_rfl)
set_option maxRecDepth 100000 in
theorem t29_1 (k_ : Nat) : ∀ (v141 : Int) (v142 : Int) (b0 : V), Agr id (pk1 a29_1) (impl_NodeOk_l16 k_ v141 v142 b0) (rounds c29 L29 (lpB Tryz.f29 1) k_ (s29_1.mk' (stv [.dead, vi v141, vi v142] [bx b0]))) := by
  induction k_ with
  | zero => exact fun _ _ _ => g0
  | succ k_ ih => exact fun _ _ _ => gA (g1 (g1 (g1 (g1 g4 (g1 (g1 g4 (g1 (g1 (g1 g4 (g1 (g1 g4 (ih _ _ _)) g0)) g0) (ih _ _ _))) g0)) g0) (g1 (g1 (g1 g4 (g1 (g1 g4 (ih _ _ _)) g0)) g0) (ih _ _ _))) g4) (by kernel_rfl)
theorem o29 : LoopsOk c29 L29 (bodyOf Tryz.f29) := GoodAll.ok (l := [l29_0, l29_1]) (.cons 0 (by kernel_rfl) (gd1 (fun st => (((sv st 4).I) - ((sv st 5).I)).toNat + 1) (fun st => t29_0 _ _ _ _ _ _ _) fun st => by kernel_rfl) (.cons 1 (by kernel_rfl) (gd1 (fun st => (((sv st 1).I) - ((sv st 2).I)).toNat + 1) (fun st => t29_1 _ _ _ _) fun st => by kernel_rfl) (.nil))) rfl
set_option maxRecDepth 100000 in
noncomputable def e29 : En Tryz.prog tab := enP base [e56, e57, e58, e59] false [] Tryz.func29 (L := L29) o29 [(.agg q16), (.one (.int .i64))] (fun a => impl_NodeOk (rd a 0) ((rd a 1).I)) (fun r_ : Bool => ((V.bool r_), [])) [] [] [none, none] false (by kernel_rfl) fun _ => gA (g1 g4 (g1 g4 (g1 g4 (g1 g4 (g1 g4 (g2 fun _ => g1 g4 (g1 g4 (g1 g4 (g1 g4 (g1 g4 (g1 g4 (g1 g4 (g1 (g2 fun _ => g1 g4 (g1 (g1 g4 (g1 g4 (g1 (g1 g4 (g2 fun _ => g1 g4 g4)) (g2 fun _ => g1 g4 g4)))) (g1 (g1 g4 (g2 fun _ => g1 g4 g4)) (g2 fun _ => g1 g4 g4)))) (g1 (g1 g4 (g1 g4 (g1 (g1 g4 (g2 fun _ => g1 g4 g4)) (g2 fun _ => g1 g4 g4)))) (g1 (g1 g4 (g2 fun _ => g1 g4 g4)) (g2 fun _ => g1 g4 g4)))))))))))))))) (by kernel_rfl)
end Go.Eng.R
open Go Go.Eng Go.Proofs
namespace Go.Eng.R
noncomputable def c30 : Cfg := cfgOf (P := Tryz.prog) (tab := tab) [e57, e60, e58] false []
def a30_0 (r_ : Nat × Bool × V) : List (Ex × St) := [(Ex.ret, (⟨[(1, (V.bp 0 0)), (2, (V.bool r_.2.1))], [(0, some (Blk.box t_impl_Msg (l17 r_.2.2)))], 1, []⟩ : St)), ((Ex.exit 0), (⟨[(1, (V.bp 0 0)), (2, V.dead)], [(0, some (Blk.box t_impl_Msg (l17 r_.2.2)))], 1, []⟩ : St))]
def s30_0 : SS := ⟨[(1, (.one (.bp 0 0))), (3, (.one (.int .i64))), (109, (.one (.inl t_impl_Item))), (110, (.one (.int .i64))), (111, (.one (.int .i64)))], [(.box t_impl_Msg q18)], 1, []⟩
noncomputable def l30_0 : LE := le1 11 s30_0 (fun st => impl_MsgOk_l11 ((((sv st 3).I) - ((sv st 4).I)).toNat + 1) ((sv st 1).I) ((sv st 2).L) ((sv st 3).I) ((sv st 4).I) (bc st 0)) a30_0
noncomputable def L30 : Loops := ⟨fun k => (look [(11, [1, 3, 109, 110, 111])] k).getD [], fun _ => [], fun k => (look [(11, [1, 2])] k).getD [], runL [l30_0]⟩
theorem t30_0 (k_ : Nat) : ∀ (term3 : Int) (v109 : List V) (v110 : Int) (v111 : Int) (b0 : V), Agr id (pk1 a30_0) (impl_MsgOk_l11 k_ term3 v109 v110 v111 b0) (rounds c30 L30 (lpB Tryz.f30 0) k_ (s30_0.mk' (stv [.dead, vi term3, V.inl 0 v109, vi v110, vi v111] [bx b0]))) := by
  induction k_ with
  | zero => exact fun _ _ _ _ _ => g0
  | succ k_ ih => exact fun _ _ _ _ _ => gA (g1 (g1 (g2 fun _ => g1 g4 (g1 g4 (ih _ _ _ _ _))) g0) g4) (by kernel_rfl)
theorem o30 : LoopsOk c30 L30 (bodyOf Tryz.f30) := GoodAll.ok (l := [l30_0]) (.cons 0 (by kernel_rfl) (gd1 (fun st => (((sv st 3).I) - ((sv st 4).I)).toNat + 1) (fun st => t30_0 _ _ _ _ _ _) fun st => by kernel_rfl) (.nil)) rfl
set_option maxRecDepth 100000 in
noncomputable def e30 : En Tryz.prog tab := enP base [e57, e60, e58] false [] Tryz.func30 (L := L30) o30 [(.agg q18)] (fun a => impl_MsgOk (rd a 0)) (fun r_ : Bool => ((V.bool r_), [])) [] [] [none] false (by kernel_rfl) fun _ => gA (g1 g4 (g1 g4 (g1 g4 (g1 g4 (g1 g4 (g1 (g1 g4 (g1 g4 (g1 (g1 g4 (g1 (g1 g4 g4) (g1 (g1 g4 g4) (g1 g4 (g1 g4 (g1 (g1 g4 (g1 (g1 g4 (g2 fun _ => g1 g4 (g1 (g1 g4 g4) g4))) (g2 fun _ => g1 g4 (g1 (g1 g4 g4) g4)))) (g1 (g1 g4 (g2 fun _ => g1 g4 (g1 (g1 g4 g4) g4))) (g2 fun _ => g1 g4 (g1 (g1 g4 g4) g4))))))))) (g1 (g1 g4 g4) (g1 (g1 g4 g4) (g1 g4 (g1 g4 (g1 (g1 g4 (g1 (g1 g4 (g2 fun _ => g1 g4 (g1 (g1 g4 g4) g4))) (g2 fun _ => g1 g4 (g1 (g1 g4 g4) g4)))) (g1 (g1 g4 (g2 fun _ => g1 g4 (g1 (g1 g4 g4) g4))) (g2 fun _ => g1 g4 (g1 (g1 g4 g4) g4))))))))))) (g1 (g1 g4 (g1 (g1 g4 g4) (g1 (g1 g4 g4) (g1 g4 (g1 g4 (g1 (g1 g4 (g1 (g1 g4 (g2 fun _ => g1 g4 (g1 (g1 g4 g4) g4))) (g2 fun _ => g1 g4 (g1 (g1 g4 g4) g4)))) (g1 (g1 g4 (g2 fun _ => g1 g4 (g1 (g1 g4 g4) g4))) (g2 fun _ => g1 g4 (g1 (g1 g4 g4) g4))))))))) (g1 (g1 g4 g4) (g1 (g1 g4 g4) (g1 g4 (g1 g4 (g1 (g1 g4 (g1 (g1 g4 (g2 fun _ => g1 g4 (g1 (g1 g4 g4) g4))) (g2 fun _ => g1 g4 (g1 (g1 g4 g4) g4)))) (g1 (g1 g4 (g2 fun _ => g1 g4 (g1 (g1 g4 g4) g4))) (g2 fun _ => g1 g4 (g1 (g1 g4 g4) g4))))))))))))))) (by kernel_rfl)
noncomputable def e109 : En Tryz.prog tab := enN base [] false [] Tryz.func109 noLo t_byte slices_Clone_byte (fun r_ : List V => ((V.rr t_byte true r_), [])) [[(.rr t_byte true)]] [] [some t_byte] false (by kernel_rfl) (fun _ => gA (g1 g4 g0) (by kernel_rfl)) (by
  have h : evalW (wkF [[(.rr t_byte true)]] []) (cfgOf (P := Tryz.prog) (tab := tab) [] false []) noL Tryz.f109 [V.nl t_byte] = (some (wkF [[(.rr t_byte true)]] [] ((V.nil t_byte), []))) := by kernel_rfl
  rw [h, slices_Clone_byte]
  clear h
  intro r h; revert h; simp only [List.length_nil]; intro h; first | (cases h; kernel_rfl) | (revert h; simp [roomy]; intro h; subst h; kernel_rfl))
noncomputable def e97 : En Tryz.prog tab := enP base [e109] false [] Tryz.func97 noLo [(.agg q0)] (fun a => impl_Op_own (rd a 0)) (fun r_ : V => ((h5 r_), [])) [q6] [] [none] false (by kernel_rfl) fun _ => gA (g2 fun _ => g2 fun _ => g4) (by kernel_rfl)
noncomputable def e83 : En Tryz.prog tab := enP base [e97] false [] Tryz.func83 noLo [(.agg q1)] (fun a => impl_Cmd_own (rd a 0)) (fun r_ : V => ((h7 r_), [])) [q8] [] [none] false (by kernel_rfl) fun _ => gA (g2 fun _ => g4) (by kernel_rfl)
noncomputable def c61 : Cfg := cfgOf (P := Tryz.prog) (tab := tab) [e83] false []
def a61_0 (r_ : List V) : List (Ex × St) := [((Ex.exit 0), (⟨[(3, (vs 0 t_impl_Item))], [(0, some (Blk.row t_impl_Item true r_))], 1, []⟩ : St))]
def s61_0 : SS := ⟨[(3, (.one (.sl 0 t_impl_Item))), (6, (.one (.inl t_impl_Item))), (7, (.one (.int .i64))), (8, (.one (.int .i64)))], [(.row t_impl_Item true)], 1, []⟩
noncomputable def l61_0 : LE := le0 3 s61_0 (fun st => impl_ownItems_l3 ((((sv st 2).I) - ((sv st 3).I)).toNat + 1) ((sv st 1).L) ((sv st 2).I) ((sv st 3).I) (br st 0)) a61_0
noncomputable def L61 : Loops := ⟨fun k => (look [(3, [3, 6, 7, 8])] k).getD [], fun k => (look [(3, [⟨3, none, true⟩])] k).getD [], fun k => (look [(3, [3])] k).getD [], runL [l61_0]⟩
theorem t61_0 (k_ : Nat) : ∀ (v6 : List V) (v7 : Int) (v8 : Int) (r0 : List V), Agr id (pk0 a61_0) (impl_ownItems_l3 k_ v6 v7 v8 r0) (rounds c61 L61 (lpB Tryz.f61 0) k_ (s61_0.mk' (stv [.dead, V.inl 0 v6, vi v7, vi v8] [rb r0]))) := by
  induction k_ with
  | zero => exact fun _ _ _ _ => g0
  | succ k_ ih => exact fun _ _ _ _ => gA (g1 (g1 (g2 fun _ => g1 (ih _ _ _ _) g0) g0) g4) (by kernel_rfl)
theorem o61 : LoopsOk c61 L61 (bodyOf Tryz.f61) := GoodAll.ok (l := [l61_0]) (.cons 0 (by kernel_rfl) (gd0 (fun st => (((sv st 2).I) - ((sv st 3).I)).toNat + 1) (fun st => t61_0 _ _ _ _ _) fun st => by kernel_rfl) (.nil)) rfl
noncomputable def e61 : En Tryz.prog tab := enP base [e83] false [] Tryz.func61 (L := L61) o61 [(.one (.inl t_impl_Item))] (fun a => impl_ownItems ((rd a 0).L)) (fun r_ : List V => ((V.rr t_impl_Item true r_), [])) [[(.rr t_impl_Item true)]] [] [some t_impl_Item] false (by kernel_rfl) fun _ => gA (g2 fun _ => g4) (by kernel_rfl)
noncomputable def e62 : En Tryz.prog tab := enN base [] false [] Tryz.func62 noLo t_bool slices_Clone_bool (fun r_ : List V => ((V.rr t_bool true r_), [])) [[(.rr t_bool true)]] [] [some t_bool] false (by kernel_rfl) (fun _ => gA (g1 g4 g0) (by kernel_rfl)) (by
  have h : evalW (wkF [[(.rr t_bool true)]] []) (cfgOf (P := Tryz.prog) (tab := tab) [] false []) noL Tryz.f62 [V.nl t_bool] = (some (wkF [[(.rr t_bool true)]] [] ((V.nil t_bool), []))) := by kernel_rfl
  rw [h, slices_Clone_bool]
  clear h
  intro r h; revert h; simp only [List.length_nil]; intro h; first | (cases h; kernel_rfl) | (revert h; simp [roomy]; intro h; subst h; kernel_rfl))
noncomputable def e63 : En Tryz.prog tab := enN base [] false [] Tryz.func63 noLo t_int' slices_Clone_int (fun r_ : List V => ((V.rr t_int' true r_), [])) [[(.rr t_int' true)]] [] [some t_int'] false (by kernel_rfl) (fun _ => gA (g1 g4 g0) (by kernel_rfl)) (by
  have h : evalW (wkF [[(.rr t_int' true)]] []) (cfgOf (P := Tryz.prog) (tab := tab) [] false []) noL Tryz.f63 [V.nl t_int'] = (some (wkF [[(.rr t_int' true)]] [] ((V.nil t_int'), []))) := by kernel_rfl
  rw [h, slices_Clone_int]
  clear h
  intro r h; revert h; simp only [List.length_nil]; intro h; first | (cases h; kernel_rfl) | (revert h; simp [roomy]; intro h; subst h; kernel_rfl))
noncomputable def e31 : En Tryz.prog tab := enP base [e61, e62, e63] false [] Tryz.func31 noLo [(.agg q16)] (fun a => impl_Node_own (rd a 0)) (fun r_ : V => ((h11 r_), [])) [q12] [] [none] false (by kernel_rfl) fun _ => gA (g2 fun _ => g2 fun _ => g2 fun _ => g2 fun _ => g4) (by kernel_rfl)
noncomputable def e64 : En Tryz.prog tab := enT base [] false [] Tryz.func64 noLo [(.rf t_impl_server q35), (.one (.int .i64))] (fun a => impl_server_follow ((rd a 0).unbox) ((rd a 1).I)) (fun r_ : V => ((V.tup []), [(V.rf t_impl_server (l36 r_))])) [] [q37] [none, none] false (by kernel_rfl) fun _ => gT (g5 g7 g7) (by kernel_rfl)
noncomputable def e89 : En Tryz.prog tab := enP base [e57] false [] Tryz.func89 noLo [(.agg q16), (.one (.int .i64))] (fun a => impl_Node_termAt (rd a 0) ((rd a 1).I)) (fun r_ : Int => ((vi r_), [])) [] [] [none, none] false (by kernel_rfl) fun _ => gA (g1 g4 (g1 g4 g0)) (by kernel_rfl)
noncomputable def e84 : En Tryz.prog tab := enP base [e89] false [] Tryz.func84 noLo [(.agg q16)] (fun a => impl_Node_lastTerm (rd a 0)) (fun r_ : Int => ((vi r_), [])) [] [] [none] false (by kernel_rfl) fun _ => gA (g2 fun _ => g4) (by kernel_rfl)
noncomputable def e65 : En Tryz.prog tab := enP base [e84] false [] Tryz.func65 noLo [(.agg q16), (.one (.int .i64)), (.one (.int .i64))] (fun a => impl_Node_newer (rd a 0) ((rd a 1).I) ((rd a 2).I)) (fun r_ : Bool => ((V.bool r_), [])) [] [] [none, none, none] false (by kernel_rfl) fun _ => gA (g2 fun _ => g1 g4 (g2 fun _ => g1 g4 g4)) (by kernel_rfl)
noncomputable def e85 : En Tryz.prog tab := enT base [] false [] Tryz.func85 noLo [(.agg q16), (.one (.int .i64))] (fun a => impl_Node_most (rd a 0) ((rd a 1).I)) (fun r_ : Bool => ((V.bool r_), [])) [] [] [none, none] false (by kernel_rfl) fun _ => gT g7 (by kernel_rfl)
noncomputable def c87 : Cfg := cfgOf (P := Tryz.prog) (tab := tab) [e89, e85] false []
def a87_0 (r_ : Int × Int × V × List V × List V × List V × List V × List V) : List (Ex × St) := [((Ex.exit 2), (⟨[(0, (V.bp 0 0)), (2, (vi r_.1)), (3, (vi r_.2.1))], [(0, some (Blk.box t_impl_server (l38 r_.2.2.1))), (1, some (Blk.row t_impl_Item true r_.2.2.2.1)), (2, some (Blk.row t_bool true r_.2.2.2.2.1)), (3, some (Blk.row t_int' true r_.2.2.2.2.2.1)), (4, some (Blk.row t_int' true r_.2.2.2.2.2.2.1)), (5, some (Blk.row t_impl_Msg true r_.2.2.2.2.2.2.2))], 6, [0]⟩ : St))]
def s87_0 : SS := ⟨[(0, (.one (.bp 0 0))), (2, (.one (.int .i64))), (3, (.one (.int .i64))), (60, (.one (.sl 1 t_int'))), (61, (.one (.int .i64))), (62, (.one (.int .i64)))], [(.box t_impl_server q39), (.row t_int' true), (.row t_impl_Item true), (.row t_bool true), (.row t_int' true), (.row t_impl_Msg true)], 6, [0]⟩
noncomputable def l87_0 : LE := le0 6 s87_0 (fun st => impl_server_advance_l6 ((((sv st 4).I) - ((sv st 5).I)).toNat + 1) ((sv st 1).I) ((sv st 2).I) ((sv st 4).I) ((sv st 5).I) (bc st 0) (br st 1) (br st 2) (br st 3) (br st 4) (br st 5)) a87_0
def a87_1 (r_ : Nat × V × List V × List V × List V × List V × List V) : List (Ex × St) := [(Ex.ret, (⟨[], [(0, some (Blk.box t_impl_server (l38 r_.2.1))), (1, some (Blk.row t_impl_Item true r_.2.2.1)), (2, some (Blk.row t_bool true r_.2.2.2.1)), (3, some (Blk.row t_int' true r_.2.2.2.2.1)), (4, some (Blk.row t_int' true r_.2.2.2.2.2.1)), (5, some (Blk.row t_impl_Msg true r_.2.2.2.2.2.2))], 6, [0]⟩ : St)), ((Ex.exit 0), (⟨[], [(0, some (Blk.box t_impl_server (l38 r_.2.1))), (1, some (Blk.row t_impl_Item true r_.2.2.1)), (2, some (Blk.row t_bool true r_.2.2.2.1)), (3, some (Blk.row t_int' true r_.2.2.2.2.1)), (4, some (Blk.row t_int' true r_.2.2.2.2.2.1)), (5, some (Blk.row t_impl_Msg true r_.2.2.2.2.2.2))], 6, [0]⟩ : St))]
def s87_1 : SS := ⟨[(0, (.one (.bp 0 0))), (2, (.one (.int .i64)))], [(.box t_impl_server q40), (.row t_impl_Item true), (.row t_bool true), (.row t_int' true), (.row t_int' true), (.row t_impl_Msg true)], 6, [0]⟩
noncomputable def l87_1 : LE := le1 2 s87_1 (fun st => impl_server_advance_l2 ((((sv st 1).I) - (gi (bc st 0) 4)).toNat + 1) ((sv st 1).I) (bc st 0) (br st 1) (br st 2) (br st 3) (br st 4) (br st 5)) a87_1
noncomputable def L87 : Loops := ⟨fun k => (look [(2, [0, 2]), (6, [0, 2, 3, 60, 61, 62])] k).getD [], fun _ => [], fun k => (look [(2, []), (6, [0, 2, 3])] k).getD [], runL [l87_0, l87_1]⟩
theorem t87_0 (k_ : Nat) : ∀ (place2 : Int) (count3 : Int) (v61 : Int) (v62 : Int) (b0 : V) (r1 : List V) (r2 : List V) (r3 : List V) (r4 : List V) (r5 : List V), Agr id (pk0 a87_0) (impl_server_advance_l6 k_ place2 count3 v61 v62 b0 r1 r2 r3 r4 r5) (rounds c87 L87 (lpB Tryz.f87 1) k_ (s87_0.mk' (stv [.dead, vi place2, vi count3, .dead, vi v61, vi v62] [bx b0, rb r1, rb r2, rb r3, rb r4, rb r5]))) := by
  induction k_ with
  | zero => exact fun _ _ _ _ _ _ _ _ _ _ => g0
  | succ k_ ih => exact fun _ _ _ _ _ _ _ _ _ _ => gA (g1 (g1 (g1 (ih _ _ _ _ _ _ _ _ _ _) (ih _ _ _ _ _ _ _ _ _ _)) g0) g4) (by kernel_rfl)
theorem t87_1 (k_ : Nat) : ∀ (place2 : Int) (b0 : V) (r1 : List V) (r2 : List V) (r3 : List V) (r4 : List V) (r5 : List V), Agr id (pk1 a87_1) (impl_server_advance_l2 k_ place2 b0 r1 r2 r3 r4 r5) (rounds c87 L87 (lpB Tryz.f87 0) k_ (s87_1.mk' (stv [.dead, vi place2] [bx b0, rb r1, rb r2, rb r3, rb r4, rb r5]))) := by
  induction k_ with
  | zero => exact fun _ _ _ _ _ _ _ => g0
  | succ k_ ih => exact fun _ _ _ _ _ _ _ => gA (g1 (g2 fun _ => g2 fun _ => g1 (g1 g4 (ih _ _ _ _ _ _ _)) (ih _ _ _ _ _ _ _)) g4) (by kernel_rfl)
theorem o87 : LoopsOk c87 L87 (bodyOf Tryz.f87) := GoodAll.ok (l := [l87_0, l87_1]) (.cons 1 (by kernel_rfl) (gd0 (fun st => (((sv st 4).I) - ((sv st 5).I)).toNat + 1) (fun st => t87_0 _ _ _ _ _ _ _ _ _ _ _) fun st => by kernel_rfl) (.cons 0 (by kernel_rfl) (gd1 (fun st => (((sv st 1).I) - (gi (bc st 0) 4)).toNat + 1) (fun st => t87_1 _ _ _ _ _ _ _ _) fun st => by kernel_rfl) (.nil))) rfl
noncomputable def e87 : En Tryz.prog tab := enP base [e89, e85] false [] Tryz.func87 (L := L87) o87 [(.rf t_impl_server q35)] (fun a => impl_server_advance ((rd a 0).unbox)) (fun r_ : V => ((V.tup []), [(V.rf t_impl_server (l36 r_))])) [] [q37] [none] false (by kernel_rfl) fun _ => gA (g1 (g1 (g2 fun _ => g1 g4 g4) g0) g0) (by kernel_rfl)
noncomputable def c98 : Cfg := cfgOf (P := Tryz.prog) (tab := tab) [] false []
def a98_0 (r_ : List V) : List (Ex × St) := [((Ex.exit 0), (⟨[(3, (vs 0 t_int'))], [(0, some (Blk.row t_int' true r_))], 1, []⟩ : St))]
def s98_0 : SS := ⟨[(1, (.one (.bp 0 0))), (3, (.one (.sl 1 t_int'))), (7, (.one (.int .i64))), (8, (.one (.int .i64)))], [(.box t_impl_Node q16), (.row t_int' true)], 2, []⟩
noncomputable def l98_0 : LE := le0 3 s98_0 (fun st => impl_Node_others_l3 ((((sv st 2).I) - ((sv st 3).I)).toNat + 1) ((sv st 2).I) ((sv st 3).I) (bc st 0) (br st 1)) a98_0
noncomputable def L98 : Loops := ⟨fun k => (look [(3, [1, 3, 7, 8])] k).getD [], fun k => (look [(3, [⟨3, none, true⟩])] k).getD [], fun k => (look [(3, [3])] k).getD [], runL [l98_0]⟩
theorem t98_0 (k_ : Nat) : ∀ (v7 : Int) (v8 : Int) (b0 : V) (r1 : List V), Agr id (pk0 a98_0) (impl_Node_others_l3 k_ v7 v8 b0 r1) (rounds c98 L98 (lpB Tryz.f98 0) k_ (s98_0.mk' (stv [.dead, .dead, vi v7, vi v8] [bx b0, rb r1]))) := by
  induction k_ with
  | zero => exact fun _ _ _ _ => g0
  | succ k_ ih => exact fun _ _ _ _ => gA (g1 (g1 (g1 (ih _ _ _ _) g0) (ih _ _ _ _)) g4) (by kernel_rfl)
theorem o98 : LoopsOk c98 L98 (bodyOf Tryz.f98) := GoodAll.ok (l := [l98_0]) (.cons 0 (by kernel_rfl) (gd0 (fun st => (((sv st 2).I) - ((sv st 3).I)).toNat + 1) (fun st => t98_0 _ _ _ _ _) fun st => by kernel_rfl) (.nil)) rfl
noncomputable def e98 : En Tryz.prog tab := enP base [] false [] Tryz.func98 (L := L98) o98 [(.agg q16)] (fun a => impl_Node_others (rd a 0)) (fun r_ : List V => ((V.rr t_int' true r_), [])) [[(.rr t_int' true)]] [] [none] false (by kernel_rfl) fun _ => gA (g2 fun _ => g4) (by kernel_rfl)
noncomputable def e99 : En Tryz.prog tab := enP base [e89, e61] false [] Tryz.func99 noLo [(.agg q16), (.one (.int .i64))] (fun a => impl_Node_entries (rd a 0) ((rd a 1).I)) (fun r_ : V => ((h13 r_), [])) [q14] [] [none, none] false (by kernel_rfl) fun _ => gA (g1 (g1 (g1 (g2 fun _ => g2 fun _ => g4) g0) g0) g0) (by kernel_rfl)
noncomputable def e90 : En Tryz.prog tab := enP base [e99] false [] Tryz.func90 noLo [(.rf t_impl_server q35), (.one (.int .i64))] (fun a => impl_server_send ((rd a 0).unbox) ((rd a 1).I)) (fun r_ : V => ((V.tup []), [(V.rf t_impl_server (l36 r_))])) [] [q37] [none, none] false (by kernel_rfl) fun _ => gA (g2 fun _ => g1 g4 g0) (by kernel_rfl)
noncomputable def c88 : Cfg := cfgOf (P := Tryz.prog) (tab := tab) [e98, e90] false []
def a88_0 (r_ : V × List V × List V × List V × List V × List V) : List (Ex × St) := [((Ex.exit 0), (⟨[], [(0, some (Blk.box t_impl_server (l38 r_.1))), (1, some (Blk.row t_impl_Item true r_.2.1)), (2, some (Blk.row t_bool true r_.2.2.1)), (3, some (Blk.row t_int' true r_.2.2.2.1)), (4, some (Blk.row t_int' true r_.2.2.2.2.1)), (5, some (Blk.row t_impl_Msg true r_.2.2.2.2.2))], 6, [0]⟩ : St))]
def s88_0 : SS := ⟨[(0, (.one (.bp 0 0))), (8, (.one (.sl 1 t_int'))), (9, (.one (.int .i64))), (10, (.one (.int .i64)))], [(.box t_impl_server q41), (.row t_int' true), (.row t_impl_Item true), (.row t_bool true), (.row t_int' true), (.row t_int' true), (.row t_impl_Msg true)], 7, [0]⟩
noncomputable def l88_0 : LE := le0 1 s88_0 (fun st => impl_server_sendAll_l1 ((((sv st 2).I) - ((sv st 3).I)).toNat + 1) ((sv st 2).I) ((sv st 3).I) (bc st 0) (br st 1) (br st 2) (br st 3) (br st 4) (br st 5) (br st 6)) a88_0
noncomputable def L88 : Loops := ⟨fun k => (look [(1, [0, 8, 9, 10])] k).getD [], fun _ => [], fun k => (look [(1, [])] k).getD [], runL [l88_0]⟩
theorem t88_0 (k_ : Nat) : ∀ (v9 : Int) (v10 : Int) (b0 : V) (r1 : List V) (r2 : List V) (r3 : List V) (r4 : List V) (r5 : List V) (r6 : List V), Agr id (pk0 a88_0) (impl_server_sendAll_l1 k_ v9 v10 b0 r1 r2 r3 r4 r5 r6) (rounds c88 L88 (lpB Tryz.f88 0) k_ (s88_0.mk' (stv [.dead, .dead, vi v9, vi v10] [bx b0, rb r1, rb r2, rb r3, rb r4, rb r5, rb r6]))) := by
  induction k_ with
  | zero => exact fun _ _ _ _ _ _ _ _ _ => g0
  | succ k_ ih => exact fun _ _ _ _ _ _ _ _ _ => gA (g1 (g1 (g2 fun _ => ih _ _ _ _ _ _ _ _ _) g0) g4) (by kernel_rfl)
theorem o88 : LoopsOk c88 L88 (bodyOf Tryz.f88) := GoodAll.ok (l := [l88_0]) (.cons 0 (by kernel_rfl) (gd0 (fun st => (((sv st 2).I) - ((sv st 3).I)).toNat + 1) (fun st => t88_0 _ _ _ _ _ _ _ _ _ _) fun st => by kernel_rfl) (.nil)) rfl
noncomputable def e88 : En Tryz.prog tab := enP base [e98, e90] false [] Tryz.func88 (L := L88) o88 [(.rf t_impl_server q35)] (fun a => impl_server_sendAll ((rd a 0).unbox)) (fun r_ : V => ((V.tup []), [(V.rf t_impl_server (l36 r_))])) [] [q37] [none] false (by kernel_rfl) fun _ => gA (g2 fun _ => g2 fun _ => g4) (by kernel_rfl)
noncomputable def c66 : Cfg := cfgOf (P := Tryz.prog) (tab := tab) [e85, e86, e87, e88] false []
def a66_0 (r_ : Int × V × List V × List V × List V × List V × List V) : List (Ex × St) := [((Ex.exit 0), (⟨[(0, (V.bp 0 0)), (2, (vi r_.1))], [(0, some (Blk.box t_impl_server (l38 r_.2.1))), (1, some (Blk.row t_impl_Item true r_.2.2.1)), (2, some (Blk.row t_bool true r_.2.2.2.1)), (3, some (Blk.row t_int' true r_.2.2.2.2.1)), (4, some (Blk.row t_int' true r_.2.2.2.2.2.1)), (5, some (Blk.row t_impl_Msg true r_.2.2.2.2.2.2))], 6, [0]⟩ : St))]
def s66_0 : SS := ⟨[(0, (.one (.bp 0 0))), (2, (.one (.int .i64))), (10, (.one (.sl 1 t_bool))), (11, (.one (.int .i64))), (12, (.one (.int .i64)))], [(.box t_impl_server q42), (.row t_bool true), (.row t_impl_Item true), (.row t_int' true), (.row t_int' true), (.row t_impl_Msg true)], 6, [0]⟩
noncomputable def l66_0 : LE := le0 2 s66_0 (fun st => impl_server_lead_l2 ((((sv st 3).I) - ((sv st 4).I)).toNat + 1) ((sv st 1).I) ((sv st 3).I) ((sv st 4).I) (bc st 0) (br st 1) (br st 2) (br st 3) (br st 4) (br st 5)) a66_0
def a66_1 (r_ : V × List V × List V × List V × List V × List V) : List (Ex × St) := [((Ex.exit 2), (⟨[(0, (V.bp 0 0))], [(0, some (Blk.box t_impl_server (l38 r_.1))), (1, some (Blk.row t_impl_Item true r_.2.1)), (2, some (Blk.row t_bool true r_.2.2.1)), (3, some (Blk.row t_int' true r_.2.2.2.1)), (4, some (Blk.row t_int' true r_.2.2.2.2.1)), (5, some (Blk.row t_impl_Msg true r_.2.2.2.2.2))], 6, [0]⟩ : St))]
def s66_1 : SS := ⟨[(0, (.one (.bp 0 0))), (49, (.one (.int .i64))), (50, (.one (.int .i64)))], [(.box t_impl_server q40), (.row t_impl_Item true), (.row t_bool true), (.row t_int' true), (.row t_int' true), (.row t_impl_Msg true)], 6, [0]⟩
noncomputable def l66_1 : LE := le0 10 s66_1 (fun st => impl_server_lead_l10 ((((sv st 1).I) - ((sv st 2).I)).toNat + 1) ((sv st 1).I) ((sv st 2).I) (bc st 0) (br st 1) (br st 2) (br st 3) (br st 4) (br st 5)) a66_1
noncomputable def L66 : Loops := ⟨fun k => (look [(2, [0, 2, 10, 11, 12]), (10, [0, 49, 50])] k).getD [], fun _ => [], fun k => (look [(2, [0, 2]), (10, [0])] k).getD [], runL [l66_0, l66_1]⟩
theorem t66_0 (k_ : Nat) : ∀ (count2 : Int) (v11 : Int) (v12 : Int) (b0 : V) (r1 : List V) (r2 : List V) (r3 : List V) (r4 : List V) (r5 : List V), Agr id (pk0 a66_0) (impl_server_lead_l2 k_ count2 v11 v12 b0 r1 r2 r3 r4 r5) (rounds c66 L66 (lpB Tryz.f66 0) k_ (s66_0.mk' (stv [.dead, vi count2, .dead, vi v11, vi v12] [bx b0, rb r1, rb r2, rb r3, rb r4, rb r5]))) := by
  induction k_ with
  | zero => exact fun _ _ _ _ _ _ _ _ _ => g0
  | succ k_ ih => exact fun _ _ _ _ _ _ _ _ _ => gA (g1 (g1 (g1 (ih _ _ _ _ _ _ _ _ _) (ih _ _ _ _ _ _ _ _ _)) g0) g4) (by kernel_rfl)
theorem t66_1 (k_ : Nat) : ∀ (v49 : Int) (v50 : Int) (b0 : V) (r1 : List V) (r2 : List V) (r3 : List V) (r4 : List V) (r5 : List V), Agr id (pk0 a66_1) (impl_server_lead_l10 k_ v49 v50 b0 r1 r2 r3 r4 r5) (rounds c66 L66 (lpB Tryz.f66 1) k_ (s66_1.mk' (stv [.dead, vi v49, vi v50] [bx b0, rb r1, rb r2, rb r3, rb r4, rb r5]))) := by
  induction k_ with
  | zero => exact fun _ _ _ _ _ _ _ _ => g0
  | succ k_ ih => exact fun _ _ _ _ _ _ _ _ => gA (g1 (g1 (g1 (ih _ _ _ _ _ _ _ _) g0) g0) g4) (by kernel_rfl)
theorem o66 : LoopsOk c66 L66 (bodyOf Tryz.f66) := GoodAll.ok (l := [l66_0, l66_1]) (.cons 0 (by kernel_rfl) (gd0 (fun st => (((sv st 3).I) - ((sv st 4).I)).toNat + 1) (fun st => t66_0 _ _ _ _ _ _ _ _ _ _) fun st => by kernel_rfl) (.cons 1 (by kernel_rfl) (gd0 (fun st => (((sv st 1).I) - ((sv st 2).I)).toNat + 1) (fun st => t66_1 _ _ _ _ _ _ _ _ _) fun st => by kernel_rfl) (.nil))) rfl
set_option maxRecDepth 100000 in
noncomputable def e66 : En Tryz.prog tab := enP base [e85, e86, e87, e88] false [] Tryz.func66 (L := L66) o66 [(.rf t_impl_server q35)] (fun a => impl_server_lead ((rd a 0).unbox)) (fun r_ : V => ((V.tup []), [(V.rf t_impl_server (l36 r_))])) [] [q37] [none] false (by kernel_rfl) fun _ => gA (g2 fun _ => g1 g4 (g2 fun _ => g1 (g1 (g2 fun _ => g2 fun _ => g4) g0) (g2 fun _ => g2 fun _ => g4))) (by kernel_rfl)
noncomputable def c67 : Cfg := cfgOf (P := Tryz.prog) (tab := tab) [e64, e89, e83] false []
def a67_0 (r_ : Nat × Int × Bool × V × V × List V × List V × List V × List V × List V) : List (Ex × St) := [(Ex.ret, (⟨[(0, (V.bp 0 0)), (3, (V.bp 1 0)), (4, (vi r_.2.1)), (5, (V.bool r_.2.2.1))], [(0, some (Blk.box t_impl_server (l43 r_.2.2.2.1))), (1, some (Blk.box t_impl_Msg (l17 r_.2.2.2.2.1))), (2, some (Blk.row t_impl_Item true r_.2.2.2.2.2.1)), (3, some (Blk.row t_bool true r_.2.2.2.2.2.2.1)), (4, some (Blk.row t_int' true r_.2.2.2.2.2.2.2.1)), (5, some (Blk.row t_int' true r_.2.2.2.2.2.2.2.2.1)), (6, some (Blk.row t_impl_Msg true r_.2.2.2.2.2.2.2.2.2))], 7, [0]⟩ : St)), ((Ex.exit 0), (⟨[(0, (V.bp 0 0)), (3, (V.bp 1 0)), (4, V.dead), (5, V.dead)], [(0, some (Blk.box t_impl_server (l43 r_.2.2.2.1))), (1, some (Blk.box t_impl_Msg (l17 r_.2.2.2.2.1))), (2, some (Blk.row t_impl_Item true r_.2.2.2.2.2.1)), (3, some (Blk.row t_bool true r_.2.2.2.2.2.2.1)), (4, some (Blk.row t_int' true r_.2.2.2.2.2.2.2.1)), (5, some (Blk.row t_int' true r_.2.2.2.2.2.2.2.2.1)), (6, some (Blk.row t_impl_Msg true r_.2.2.2.2.2.2.2.2.2))], 7, [0]⟩ : St))]
def s67_0 : SS := ⟨[(0, (.one (.bp 0 0))), (3, (.one (.bp 1 0))), (71, (.one (.inl t_impl_Item))), (72, (.one (.int .i64))), (73, (.one (.int .i64)))], [(.box t_impl_server q41), (.box t_impl_Msg q18), (.row t_impl_Item true), (.row t_bool true), (.row t_int' true), (.row t_int' true), (.row t_impl_Msg true)], 7, [0]⟩
noncomputable def l67_0 : LE := le1 10 s67_0 (fun st => impl_server_add_l10 ((((sv st 3).I) - ((sv st 4).I)).toNat + 1) ((sv st 2).L) ((sv st 3).I) ((sv st 4).I) (bc st 0) (bc st 1) (br st 2) (br st 3) (br st 4) (br st 5) (br st 6)) a67_0
def a67_1 (r_ : Int × V × V × List V × List V × List V × List V × List V) : List (Ex × St) := [((Ex.exit 2), (⟨[(0, (V.bp 0 0)), (3, (V.bp 1 0)), (9, (vi r_.1))], [(0, some (Blk.box t_impl_server (l43 r_.2.1))), (1, some (Blk.box t_impl_Msg (l17 r_.2.2.1))), (2, some (Blk.row t_impl_Item true r_.2.2.2.1)), (3, some (Blk.row t_bool true r_.2.2.2.2.1)), (4, some (Blk.row t_int' true r_.2.2.2.2.2.1)), (5, some (Blk.row t_int' true r_.2.2.2.2.2.2.1)), (6, some (Blk.row t_impl_Msg true r_.2.2.2.2.2.2.2))], 7, [0]⟩ : St))]
def s67_1 : SS := ⟨[(0, (.one (.bp 0 0))), (3, (.one (.bp 1 0))), (9, (.one (.int .i64))), (110, (.one (.inl t_impl_Item))), (111, (.one (.int .i64))), (112, (.one (.int .i64)))], [(.box t_impl_server q41), (.box t_impl_Msg q18), (.row t_impl_Item true), (.row t_bool true), (.row t_int' true), (.row t_int' true), (.row t_impl_Msg true)], 7, [0]⟩
noncomputable def l67_1 : LE := le0 18 s67_1 (fun st => impl_server_add_l18 ((((sv st 4).I) - ((sv st 5).I)).toNat + 1) ((sv st 2).I) ((sv st 3).L) ((sv st 4).I) ((sv st 5).I) (bc st 0) (bc st 1) (br st 2) (br st 3) (br st 4) (br st 5) (br st 6)) a67_1
noncomputable def L67 : Loops := ⟨fun k => (look [(10, [0, 3, 71, 72, 73]), (18, [0, 3, 9, 110, 111, 112])] k).getD [], fun k => (look [(18, [⟨0, some 3, true⟩])] k).getD [], fun k => (look [(10, [0, 3, 4, 5]), (18, [0, 3, 9])] k).getD [], runL [l67_0, l67_1]⟩
theorem t67_0 (k_ : Nat) : ∀ (v71 : List V) (v72 : Int) (v73 : Int) (b0 : V) (b1 : V) (r2 : List V) (r3 : List V) (r4 : List V) (r5 : List V) (r6 : List V), Agr id (pk1 a67_0) (impl_server_add_l10 k_ v71 v72 v73 b0 b1 r2 r3 r4 r5 r6) (rounds c67 L67 (lpB Tryz.f67 0) k_ (s67_0.mk' (stv [.dead, .dead, V.inl 0 v71, vi v72, vi v73] [bx b0, bx b1, rb r2, rb r3, rb r4, rb r5, rb r6]))) := by
  induction k_ with
  | zero => exact fun _ _ _ _ _ _ _ _ _ _ => g0
  | succ k_ ih => exact fun _ _ _ _ _ _ _ _ _ _ => gA (g1 (g1 (g1 (g2 fun _ => g1 g4 (ih _ _ _ _ _ _ _ _ _ _)) (ih _ _ _ _ _ _ _ _ _ _)) g0) g4) (by kernel_rfl)
set_option maxRecDepth 100000 in
theorem t67_1 (k_ : Nat) : ∀ (last9 : Int) (v110 : List V) (v111 : Int) (v112 : Int) (b0 : V) (b1 : V) (r2 : List V) (r3 : List V) (r4 : List V) (r5 : List V) (r6 : List V), Agr id (pk0 a67_1) (impl_server_add_l18 k_ last9 v110 v111 v112 b0 b1 r2 r3 r4 r5 r6) (rounds c67 L67 (lpB Tryz.f67 1) k_ (s67_1.mk' (stv [.dead, .dead, vi last9, V.inl 0 v110, vi v111, vi v112] [bx b0, bx b1, rb r2, rb r3, rb r4, rb r5, rb r6]))) := by
  induction k_ with
  | zero => exact fun _ _ _ _ _ _ _ _ _ _ _ => g0
  | succ k_ ih => exact fun _ _ _ _ _ _ _ _ _ _ _ => gA (g1 (g1 (g1 (g2 fun _ => g1 (g1 (g1 (g2 fun _ => g1 (ih _ _ _ _ _ _ _ _ _ _ _) g0) (ih _ _ _ _ _ _ _ _ _ _ _)) g0) (g1 (g2 fun _ => g1 (ih _ _ _ _ _ _ _ _ _ _ _) g0) (ih _ _ _ _ _ _ _ _ _ _ _))) (g1 (g2 fun _ => g1 (ih _ _ _ _ _ _ _ _ _ _ _) g0) (ih _ _ _ _ _ _ _ _ _ _ _))) g0) g4) (by kernel_rfl)
theorem o67 : LoopsOk c67 L67 (bodyOf Tryz.f67) := GoodAll.ok (l := [l67_0, l67_1]) (.cons 0 (by kernel_rfl) (gd1 (fun st => (((sv st 3).I) - ((sv st 4).I)).toNat + 1) (fun st => t67_0 _ _ _ _ _ _ _ _ _ _ _) fun st => by kernel_rfl) (.cons 1 (by kernel_rfl) (gd0 (fun st => (((sv st 4).I) - ((sv st 5).I)).toNat + 1) (fun st => t67_1 _ _ _ _ _ _ _ _ _ _ _ _) fun st => by kernel_rfl) (.nil))) rfl
set_option maxRecDepth 100000 in
noncomputable def e67 : En Tryz.prog tab := enP base [e64, e89, e83] false [] Tryz.func67 (L := L67) o67 [(.rf t_impl_server q35), (.agg q18)] (fun a => impl_server_add ((rd a 0).unbox) (rd a 1)) (fun r_ : Int × Bool × V => ((V.tup [(vi r_.1), (V.bool r_.2.1)]), [(V.rf t_impl_server (l36 r_.2.2))])) [] [q37] [none, none] false (by kernel_rfl) fun _ => gA (g1 g4 (g1 g4 (g1 g4 (g2 fun _ => g1 g4 (g2 fun _ => g1 g4 (g2 fun _ => g4)))))) (by kernel_rfl)
set_option maxRecDepth 100000 in
noncomputable def e68 : En Tryz.prog tab := enP base [e90, e87, e88] false [] Tryz.func68 noLo [(.rf t_impl_server q35), (.agg q18)] (fun a => impl_server_ack ((rd a 0).unbox) (rd a 1)) (fun r_ : V => ((V.tup []), [(V.rf t_impl_server (l36 r_))])) [] [q37] [none, none] false (by kernel_rfl) fun _ => gA (g1 g4 (g1 g4 (g1 (g1 (g1 (g1 (g1 (g2 fun _ => g4) g0) g4) g0) g0) (g1 g4 (g1 (g1 g4 (g1 (g1 (g2 fun _ => g1 (g2 fun _ => g4) (g1 (g1 (g2 fun _ => g4) g4) g0)) g0) g0)) g0))))) (by kernel_rfl)
set_option maxRecDepth 100000 in
noncomputable def e32 : En Tryz.prog tab := enP base [e64, e65, e66, e67, e68] false [] Tryz.func32 noLo [(.rf t_impl_server q35), (.agg q18)] (fun a => impl_server_hear ((rd a 0).unbox) (rd a 1)) (fun r_ : V => ((V.tup []), [(V.rf t_impl_server (l36 r_))])) [] [q37] [none, none] false (by kernel_rfl) fun _ => gA (g1 (g1 (g1 (g1 (g1 (g2 fun _ => g1 (g1 g4 g0) (g1 g4 g0)) (g1 (g2 fun _ => g1 (g1 g4 g0) (g1 g4 g0)) (g1 g4 g0))) (g1 g4 g0)) (g1 g4 g0)) (g1 (g1 (g1 (g1 (g1 (g2 fun _ => g4) g0) g4) g4) g4) (g1 (g2 fun _ => g1 g4 g0) (g2 fun _ => g4)))) (g1 (g1 (g1 (g1 (g2 fun _ => g1 (g1 g4 g0) (g1 g4 g0)) (g1 (g2 fun _ => g1 (g1 g4 g0) (g1 g4 g0)) (g1 g4 g0))) (g1 g4 g0)) (g1 g4 g0)) (g1 (g1 (g1 (g1 (g1 (g2 fun _ => g4) g0) g4) g4) g4) (g1 (g2 fun _ => g1 g4 g0) (g2 fun _ => g4))))) (by kernel_rfl)
set_option maxRecDepth 100000 in
noncomputable def e9 : En Tryz.prog tab := enP base [e29, e30, e31, e32] false [] Tryz.func9 noLo [(.agg q16), (.one (.int .i64)), (.agg q18)] (fun a => impl_Hear (rd a 0) ((rd a 1).I) (rd a 2)) (fun r_ : V × List V => ((V.tup [(h11 r_.1), (V.rr t_impl_Msg true r_.2)]), [])) [q12, [(.rr t_impl_Msg true)]] [] [none, none, none] false (by kernel_rfl) fun _ => gA (g2 fun _ => g1 g4 (g2 fun _ => g1 g4 (g1 g4 (g1 g4 (g2 fun _ => g2 fun _ => g4))))) (by kernel_rfl)
noncomputable def c110 : Cfg := cfgOf (P := Tryz.prog) (tab := tab) [] false []
def a110_0 (r_ : Nat × Bool) : List (Ex × St) := [(Ex.ret, (⟨[(4, (V.bool r_.2))], [], 0, []⟩ : St)), ((Ex.exit 0), (⟨[(4, V.dead)], [], 0, []⟩ : St))]
def s110_0 : SS := ⟨[(0, (.one (.inl t_byte))), (1, (.one (.inl t_byte))), (5, (.one (.int .i64)))], [], 0, []⟩
noncomputable def l110_0 : LE := le1 4 s110_0 (fun st => laws_eqByteS_l4 ((((((sv st 0).L).length : Nat) : Int) - ((sv st 2).I)).toNat + 1) ((sv st 0).L) ((sv st 1).L) ((sv st 2).I)) a110_0
noncomputable def L110 : Loops := ⟨fun k => (look [(4, [0, 1, 5])] k).getD [], fun _ => [], fun k => (look [(4, [4])] k).getD [], runL [l110_0]⟩
theorem t110_0 (k_ : Nat) : ∀ (a0 : List V) (b1 : List V) (i5 : Int), Agr id (pk1 a110_0) (laws_eqByteS_l4 k_ a0 b1 i5) (rounds c110 L110 (lpB Tryz.f110 0) k_ (s110_0.mk' (stv [V.inl 0 a0, V.inl 0 b1, vi i5] []))) := by
  induction k_ with
  | zero => exact fun _ _ _ => g0
  | succ k_ ih => exact fun _ _ _ => gA (g1 (g1 (g1 (g1 g4 (ih _ _ _)) g0) g0) g4) (by kernel_rfl)
theorem o110 : LoopsOk c110 L110 (bodyOf Tryz.f110) := GoodAll.ok (l := [l110_0]) (.cons 0 (by kernel_rfl) (gd1 (fun st => (((((sv st 0).L).length : Nat) : Int) - ((sv st 2).I)).toNat + 1) (fun st => t110_0 _ _ _ _) fun st => by kernel_rfl) (.nil)) rfl
noncomputable def e110 : En Tryz.prog tab := enP base [] false [] Tryz.func110 (L := L110) o110 [(.one (.inl t_byte)), (.one (.inl t_byte))] (fun a => laws_eqByteS ((rd a 0).L) ((rd a 1).L)) (fun r_ : Bool => ((V.bool r_), [])) [] [] [some t_byte, some t_byte] false (by kernel_rfl) fun _ => gA (g1 g4 (g2 fun _ => g1 g4 g4)) (by kernel_rfl)
noncomputable def e100 : En Tryz.prog tab := enP base [e110] false [] Tryz.func100 noLo [(.agg q0), (.agg q0)] (fun a => laws_eqOp (rd a 0) (rd a 1)) (fun r_ : Bool => ((V.bool r_), [])) [] [] [none, none] false (by kernel_rfl) fun _ => gA (g1 g4 (g2 fun _ => g1 g4 (g2 fun _ => g1 g4 (g1 g4 g4)))) (by kernel_rfl)
noncomputable def e91 : En Tryz.prog tab := enP base [e100] false [] Tryz.func91 noLo [(.agg q1), (.agg q1)] (fun a => laws_eqCmd (rd a 0) (rd a 1)) (fun r_ : Bool => ((V.bool r_), [])) [] [] [none, none] false (by kernel_rfl) fun _ => gA (g1 g4 (g1 g4 (g2 fun _ => g1 g4 g4))) (by kernel_rfl)
noncomputable def e69 : En Tryz.prog tab := enP base [e91] false [] Tryz.func69 noLo [(.agg q2), (.agg q2)] (fun a => laws_eqItem (rd a 0) (rd a 1)) (fun r_ : Bool => ((V.bool r_), [])) [] [] [none, none] false (by kernel_rfl) fun _ => gA (g1 g4 (g2 fun _ => g1 g4 g4)) (by kernel_rfl)
noncomputable def c33 : Cfg := cfgOf (P := Tryz.prog) (tab := tab) [e69] false []
def a33_0 (r_ : Nat × Bool) : List (Ex × St) := [(Ex.ret, (⟨[(4, (V.bool r_.2))], [], 0, []⟩ : St)), ((Ex.exit 0), (⟨[(4, V.dead)], [], 0, []⟩ : St))]
def s33_0 : SS := ⟨[(0, (.one (.inl t_impl_Item))), (1, (.one (.inl t_impl_Item))), (5, (.one (.int .i64)))], [], 0, []⟩
noncomputable def l33_0 : LE := le1 4 s33_0 (fun st => laws_eqItemS_l4 ((((((sv st 0).L).length : Nat) : Int) - ((sv st 2).I)).toNat + 1) ((sv st 0).L) ((sv st 1).L) ((sv st 2).I)) a33_0
noncomputable def L33 : Loops := ⟨fun k => (look [(4, [0, 1, 5])] k).getD [], fun _ => [], fun k => (look [(4, [4])] k).getD [], runL [l33_0]⟩
theorem t33_0 (k_ : Nat) : ∀ (a0 : List V) (b1 : List V) (i5 : Int), Agr id (pk1 a33_0) (laws_eqItemS_l4 k_ a0 b1 i5) (rounds c33 L33 (lpB Tryz.f33 0) k_ (s33_0.mk' (stv [V.inl 0 a0, V.inl 0 b1, vi i5] []))) := by
  induction k_ with
  | zero => exact fun _ _ _ => g0
  | succ k_ ih => exact fun _ _ _ => gA (g1 (g1 (g1 (g2 fun _ => g1 g4 (ih _ _ _)) g0) g0) g4) (by kernel_rfl)
theorem o33 : LoopsOk c33 L33 (bodyOf Tryz.f33) := GoodAll.ok (l := [l33_0]) (.cons 0 (by kernel_rfl) (gd1 (fun st => (((((sv st 0).L).length : Nat) : Int) - ((sv st 2).I)).toNat + 1) (fun st => t33_0 _ _ _ _) fun st => by kernel_rfl) (.nil)) rfl
noncomputable def e33 : En Tryz.prog tab := enP base [e69] false [] Tryz.func33 (L := L33) o33 [(.one (.inl t_impl_Item)), (.one (.inl t_impl_Item))] (fun a => laws_eqItemS ((rd a 0).L) ((rd a 1).L)) (fun r_ : Bool => ((V.bool r_), [])) [] [] [some t_impl_Item, some t_impl_Item] false (by kernel_rfl) fun _ => gA (g1 g4 (g2 fun _ => g1 g4 g4)) (by kernel_rfl)
noncomputable def c34 : Cfg := cfgOf (P := Tryz.prog) (tab := tab) [] false []
def a34_0 (r_ : Nat × Bool) : List (Ex × St) := [(Ex.ret, (⟨[(4, (V.bool r_.2))], [], 0, []⟩ : St)), ((Ex.exit 0), (⟨[(4, V.dead)], [], 0, []⟩ : St))]
def s34_0 : SS := ⟨[(0, (.one (.inl t_bool))), (1, (.one (.inl t_bool))), (5, (.one (.int .i64)))], [], 0, []⟩
noncomputable def l34_0 : LE := le1 4 s34_0 (fun st => laws_eqBoolS_l4 ((((((sv st 0).L).length : Nat) : Int) - ((sv st 2).I)).toNat + 1) ((sv st 0).L) ((sv st 1).L) ((sv st 2).I)) a34_0
noncomputable def L34 : Loops := ⟨fun k => (look [(4, [0, 1, 5])] k).getD [], fun _ => [], fun k => (look [(4, [4])] k).getD [], runL [l34_0]⟩
theorem t34_0 (k_ : Nat) : ∀ (a0 : List V) (b1 : List V) (i5 : Int), Agr id (pk1 a34_0) (laws_eqBoolS_l4 k_ a0 b1 i5) (rounds c34 L34 (lpB Tryz.f34 0) k_ (s34_0.mk' (stv [V.inl 0 a0, V.inl 0 b1, vi i5] []))) := by
  induction k_ with
  | zero => exact fun _ _ _ => g0
  | succ k_ ih => exact fun _ _ _ => gA (g1 (g1 (g1 (g1 g4 (ih _ _ _)) g0) g0) g4) (by kernel_rfl)
theorem o34 : LoopsOk c34 L34 (bodyOf Tryz.f34) := GoodAll.ok (l := [l34_0]) (.cons 0 (by kernel_rfl) (gd1 (fun st => (((((sv st 0).L).length : Nat) : Int) - ((sv st 2).I)).toNat + 1) (fun st => t34_0 _ _ _ _) fun st => by kernel_rfl) (.nil)) rfl
noncomputable def e34 : En Tryz.prog tab := enP base [] false [] Tryz.func34 (L := L34) o34 [(.one (.inl t_bool)), (.one (.inl t_bool))] (fun a => laws_eqBoolS ((rd a 0).L) ((rd a 1).L)) (fun r_ : Bool => ((V.bool r_), [])) [] [] [some t_bool, some t_bool] false (by kernel_rfl) fun _ => gA (g1 g4 (g2 fun _ => g1 g4 g4)) (by kernel_rfl)
noncomputable def c35 : Cfg := cfgOf (P := Tryz.prog) (tab := tab) [] false []
def a35_0 (r_ : Nat × Bool) : List (Ex × St) := [(Ex.ret, (⟨[(4, (V.bool r_.2))], [], 0, []⟩ : St)), ((Ex.exit 0), (⟨[(4, V.dead)], [], 0, []⟩ : St))]
def s35_0 : SS := ⟨[(0, (.one (.inl t_int'))), (1, (.one (.inl t_int'))), (5, (.one (.int .i64)))], [], 0, []⟩
noncomputable def l35_0 : LE := le1 4 s35_0 (fun st => laws_eqIntS_l4 ((((((sv st 0).L).length : Nat) : Int) - ((sv st 2).I)).toNat + 1) ((sv st 0).L) ((sv st 1).L) ((sv st 2).I)) a35_0
noncomputable def L35 : Loops := ⟨fun k => (look [(4, [0, 1, 5])] k).getD [], fun _ => [], fun k => (look [(4, [4])] k).getD [], runL [l35_0]⟩
theorem t35_0 (k_ : Nat) : ∀ (a0 : List V) (b1 : List V) (i5 : Int), Agr id (pk1 a35_0) (laws_eqIntS_l4 k_ a0 b1 i5) (rounds c35 L35 (lpB Tryz.f35 0) k_ (s35_0.mk' (stv [V.inl 0 a0, V.inl 0 b1, vi i5] []))) := by
  induction k_ with
  | zero => exact fun _ _ _ => g0
  | succ k_ ih => exact fun _ _ _ => gA (g1 (g1 (g1 (g1 g4 (ih _ _ _)) g0) g0) g4) (by kernel_rfl)
theorem o35 : LoopsOk c35 L35 (bodyOf Tryz.f35) := GoodAll.ok (l := [l35_0]) (.cons 0 (by kernel_rfl) (gd1 (fun st => (((((sv st 0).L).length : Nat) : Int) - ((sv st 2).I)).toNat + 1) (fun st => t35_0 _ _ _ _) fun st => by kernel_rfl) (.nil)) rfl
noncomputable def e35 : En Tryz.prog tab := enP base [] false [] Tryz.func35 (L := L35) o35 [(.one (.inl t_int')), (.one (.inl t_int'))] (fun a => laws_eqIntS ((rd a 0).L) ((rd a 1).L)) (fun r_ : Bool => ((V.bool r_), [])) [] [] [some t_int', some t_int'] false (by kernel_rfl) fun _ => gA (g1 g4 (g2 fun _ => g1 g4 g4)) (by kernel_rfl)
set_option maxRecDepth 100000 in
noncomputable def e10 : En Tryz.prog tab := enP base [e33, e34, e35] false [] Tryz.func10 noLo [(.agg q16), (.agg q16)] (fun a => laws_eqNode (rd a 0) (rd a 1)) (fun r_ : Bool => ((V.bool r_), [])) [] [] [none, none] false (by kernel_rfl) fun _ => gA (g1 g4 (g1 g4 (g1 g4 (g2 fun _ => g1 g4 (g1 g4 (g1 g4 (g1 g4 (g1 g4 (g2 fun _ => g1 g4 (g2 fun _ => g1 g4 (g2 fun _ => g1 g4 g4))))))))))) (by kernel_rfl)
set_option maxRecDepth 100000 in
noncomputable def e12 : En Tryz.prog tab := enP base [e33] false [] Tryz.func12 noLo [(.agg q18), (.agg q18)] (fun a => laws_eqMsg (rd a 0) (rd a 1)) (fun r_ : Bool => ((V.bool r_), [])) [] [] [none, none] false (by kernel_rfl) fun _ => gA (g1 g4 (g1 g4 (g1 g4 (g1 g4 (g1 g4 (g1 g4 (g2 fun _ => g1 g4 (g1 g4 (g1 g4 g4))))))))) (by kernel_rfl)
noncomputable def c11 : Cfg := cfgOf (P := Tryz.prog) (tab := tab) [e12] false []
def a11_0 (r_ : Nat × Bool) : List (Ex × St) := [(Ex.ret, (⟨[(4, (V.bool r_.2))], [], 0, []⟩ : St)), ((Ex.exit 0), (⟨[(4, V.dead)], [], 0, []⟩ : St))]
def s11_0 : SS := ⟨[(0, (.one (.inl t_impl_Msg))), (1, (.one (.inl t_impl_Msg))), (5, (.one (.int .i64)))], [], 0, []⟩
noncomputable def l11_0 : LE := le1 4 s11_0 (fun st => laws_eqMsgS_l4 ((((((sv st 0).L).length : Nat) : Int) - ((sv st 2).I)).toNat + 1) ((sv st 0).L) ((sv st 1).L) ((sv st 2).I)) a11_0
noncomputable def L11 : Loops := ⟨fun k => (look [(4, [0, 1, 5])] k).getD [], fun _ => [], fun k => (look [(4, [4])] k).getD [], runL [l11_0]⟩
theorem t11_0 (k_ : Nat) : ∀ (a0 : List V) (b1 : List V) (i5 : Int), Agr id (pk1 a11_0) (laws_eqMsgS_l4 k_ a0 b1 i5) (rounds c11 L11 (lpB Tryz.f11 0) k_ (s11_0.mk' (stv [V.inl 0 a0, V.inl 0 b1, vi i5] []))) := by
  induction k_ with
  | zero => exact fun _ _ _ => g0
  | succ k_ ih => exact fun _ _ _ => gA (g1 (g1 (g1 (g2 fun _ => g1 g4 (ih _ _ _)) g0) g0) g4) (by kernel_rfl)
theorem o11 : LoopsOk c11 L11 (bodyOf Tryz.f11) := GoodAll.ok (l := [l11_0]) (.cons 0 (by kernel_rfl) (gd1 (fun st => (((((sv st 0).L).length : Nat) : Int) - ((sv st 2).I)).toNat + 1) (fun st => t11_0 _ _ _ _) fun st => by kernel_rfl) (.nil)) rfl
noncomputable def e11 : En Tryz.prog tab := enP base [e12] false [] Tryz.func11 (L := L11) o11 [(.one (.inl t_impl_Msg)), (.one (.inl t_impl_Msg))] (fun a => laws_eqMsgS ((rd a 0).L) ((rd a 1).L)) (fun r_ : Bool => ((V.bool r_), [])) [] [] [some t_impl_Msg, some t_impl_Msg] false (by kernel_rfl) fun _ => gA (g1 g4 (g2 fun _ => g1 g4 g4)) (by kernel_rfl)
noncomputable def c70 : Cfg := cfgOf (P := Tryz.prog) (tab := tab) [] false []
def a70_0 (r_ : Int × List V) : List (Ex × St) := [((Ex.exit 0), (⟨[(1, (vi r_.1))], [(0, some (Blk.drow t_byte r_.2))], 1, [0]⟩ : St))]
def s70_0 : SS := ⟨[(0, (.one (.sl 0 t_byte))), (1, (.one (.int .i64))), (5, (.one (.int .i64)))], [(.drow t_byte)], 1, [0]⟩
noncomputable def l70_0 : LE := le0 2 s70_0 (fun st => laws_markByteS_l2 (((((br st 0).length : Nat) : Int) - ((sv st 2).I)).toNat + 1) ((sv st 1).I) ((sv st 2).I) (br st 0)) a70_0
noncomputable def L70 : Loops := ⟨fun k => (look [(2, [0, 1, 5])] k).getD [], fun _ => [], fun k => (look [(2, [1])] k).getD [], runL [l70_0]⟩
theorem t70_0 (k_ : Nat) : ∀ (k1 : Int) (i5 : Int) (r0 : List V), Agr id (pk0 a70_0) (laws_markByteS_l2 k_ k1 i5 r0) (rounds c70 L70 (lpB Tryz.f70 0) k_ (s70_0.mk' (stv [.dead, vi k1, vi i5] [rb r0]))) := by
  induction k_ with
  | zero => exact fun _ _ _ => g0
  | succ k_ ih => exact fun _ _ _ => gA (g1 (g1 (ih _ _ _) g0) g4) (by kernel_rfl)
theorem o70 : LoopsOk c70 L70 (bodyOf Tryz.f70) := GoodAll.ok (l := [l70_0]) (.cons 0 (by kernel_rfl) (gd0 (fun st => ((((br st 0).length : Nat) : Int) - ((sv st 2).I)).toNat + 1) (fun st => t70_0 _ _ _ _) fun st => by kernel_rfl) (.nil)) rfl
noncomputable def e70 : En Tryz.prog tab := enP base [] false [] Tryz.func70 (L := L70) o70 [(.one (.dr t_byte)), (.one (.int .i64))] (fun a => laws_markByteS ((rd a 0).L) ((rd a 1).I)) (fun r_ : Int × List V => ((vi r_.1), [(V.dr t_byte r_.2)])) [] [[(.dr t_byte)]] [some t_byte, none] true (by kernel_rfl) fun _ => gA (g2 fun _ => g4) (by kernel_rfl)
noncomputable def c36 : Cfg := cfgOf (P := Tryz.prog) (tab := tab) [e70] false []
def a36_0 (r_ : Int × List V) : List (Ex × St) := [((Ex.exit 0), (⟨[(1, (vi r_.1))], [(0, some (Blk.drow t_impl_Item r_.2))], 1, [0]⟩ : St))]
def s36_0 : SS := ⟨[(0, (.one (.sl 0 t_impl_Item))), (1, (.one (.int .i64))), (5, (.one (.int .i64)))], [(.drow t_impl_Item)], 1, [0]⟩
noncomputable def l36_0 : LE := le0 2 s36_0 (fun st => laws_markItemS_l2 (((((br st 0).length : Nat) : Int) - ((sv st 2).I)).toNat + 1) ((sv st 1).I) ((sv st 2).I) (br st 0)) a36_0
noncomputable def L36 : Loops := ⟨fun k => (look [(2, [0, 1, 5])] k).getD [], fun _ => [], fun k => (look [(2, [1])] k).getD [], runL [l36_0]⟩
set_option maxRecDepth 100000 in
theorem t36_0 (k_ : Nat) : ∀ (k1 : Int) (i5 : Int) (r0 : List V), Agr id (pk0 a36_0) (laws_markItemS_l2 k_ k1 i5 r0) (rounds c36 L36 (lpB Tryz.f36 0) k_ (s36_0.mk' (stv [.dead, vi k1, vi i5] [rb r0]))) := by
  induction k_ with
  | zero => exact fun _ _ _ => g0
  | succ k_ ih => exact fun _ _ _ => gA (g1 (g1 (g3 fun _ => g1 (g3 fun _ => g1 (g3 fun _ => g1 (g3 fun _ => g1 (g2 fun _ => g1 (g3 fun _ => g2 fun _ => g1 (g3 fun _ => g3 fun _ => ih _ _ _) g0) g0) g0) g0) g0) g0) g0) g4) (by kernel_rfl)
theorem o36 : LoopsOk c36 L36 (bodyOf Tryz.f36) := GoodAll.ok (l := [l36_0]) (.cons 0 (by kernel_rfl) (gd0 (fun st => ((((br st 0).length : Nat) : Int) - ((sv st 2).I)).toNat + 1) (fun st => t36_0 _ _ _ _) fun st => by kernel_rfl) (.nil)) rfl
noncomputable def e36 : En Tryz.prog tab := enP base [e70] false [] Tryz.func36 (L := L36) o36 [(.one (.dr t_impl_Item)), (.one (.int .i64))] (fun a => laws_markItemS ((rd a 0).L) ((rd a 1).I)) (fun r_ : Int × List V => ((vi r_.1), [(V.dr t_impl_Item r_.2)])) [] [[(.dr t_impl_Item)]] [some t_impl_Item, none] true (by kernel_rfl) fun _ => gA (g2 fun _ => g4) (by kernel_rfl)
noncomputable def c37 : Cfg := cfgOf (P := Tryz.prog) (tab := tab) [] false []
def a37_0 (r_ : Int × List V) : List (Ex × St) := [((Ex.exit 0), (⟨[(1, (vi r_.1))], [(0, some (Blk.drow t_bool r_.2))], 1, [0]⟩ : St))]
def s37_0 : SS := ⟨[(0, (.one (.sl 0 t_bool))), (1, (.one (.int .i64))), (5, (.one (.int .i64)))], [(.drow t_bool)], 1, [0]⟩
noncomputable def l37_0 : LE := le0 2 s37_0 (fun st => laws_markBoolS_l2 (((((br st 0).length : Nat) : Int) - ((sv st 2).I)).toNat + 1) ((sv st 1).I) ((sv st 2).I) (br st 0)) a37_0
noncomputable def L37 : Loops := ⟨fun k => (look [(2, [0, 1, 5])] k).getD [], fun _ => [], fun k => (look [(2, [1])] k).getD [], runL [l37_0]⟩
theorem t37_0 (k_ : Nat) : ∀ (k1 : Int) (i5 : Int) (r0 : List V), Agr id (pk0 a37_0) (laws_markBoolS_l2 k_ k1 i5 r0) (rounds c37 L37 (lpB Tryz.f37 0) k_ (s37_0.mk' (stv [.dead, vi k1, vi i5] [rb r0]))) := by
  induction k_ with
  | zero => exact fun _ _ _ => g0
  | succ k_ ih => exact fun _ _ _ => gA (g1 (g1 (ih _ _ _) g0) g4) (by kernel_rfl)
theorem o37 : LoopsOk c37 L37 (bodyOf Tryz.f37) := GoodAll.ok (l := [l37_0]) (.cons 0 (by kernel_rfl) (gd0 (fun st => ((((br st 0).length : Nat) : Int) - ((sv st 2).I)).toNat + 1) (fun st => t37_0 _ _ _ _) fun st => by kernel_rfl) (.nil)) rfl
noncomputable def e37 : En Tryz.prog tab := enP base [] false [] Tryz.func37 (L := L37) o37 [(.one (.dr t_bool)), (.one (.int .i64))] (fun a => laws_markBoolS ((rd a 0).L) ((rd a 1).I)) (fun r_ : Int × List V => ((vi r_.1), [(V.dr t_bool r_.2)])) [] [[(.dr t_bool)]] [some t_bool, none] true (by kernel_rfl) fun _ => gA (g2 fun _ => g4) (by kernel_rfl)
noncomputable def c38 : Cfg := cfgOf (P := Tryz.prog) (tab := tab) [] false []
def a38_0 (r_ : Int × List V) : List (Ex × St) := [((Ex.exit 0), (⟨[(1, (vi r_.1))], [(0, some (Blk.drow t_int' r_.2))], 1, [0]⟩ : St))]
def s38_0 : SS := ⟨[(0, (.one (.sl 0 t_int'))), (1, (.one (.int .i64))), (5, (.one (.int .i64)))], [(.drow t_int')], 1, [0]⟩
noncomputable def l38_0 : LE := le0 2 s38_0 (fun st => laws_markIntS_l2 (((((br st 0).length : Nat) : Int) - ((sv st 2).I)).toNat + 1) ((sv st 1).I) ((sv st 2).I) (br st 0)) a38_0
noncomputable def L38 : Loops := ⟨fun k => (look [(2, [0, 1, 5])] k).getD [], fun _ => [], fun k => (look [(2, [1])] k).getD [], runL [l38_0]⟩
theorem t38_0 (k_ : Nat) : ∀ (k1 : Int) (i5 : Int) (r0 : List V), Agr id (pk0 a38_0) (laws_markIntS_l2 k_ k1 i5 r0) (rounds c38 L38 (lpB Tryz.f38 0) k_ (s38_0.mk' (stv [.dead, vi k1, vi i5] [rb r0]))) := by
  induction k_ with
  | zero => exact fun _ _ _ => g0
  | succ k_ ih => exact fun _ _ _ => gA (g1 (g1 (ih _ _ _) g0) g4) (by kernel_rfl)
theorem o38 : LoopsOk c38 L38 (bodyOf Tryz.f38) := GoodAll.ok (l := [l38_0]) (.cons 0 (by kernel_rfl) (gd0 (fun st => ((((br st 0).length : Nat) : Int) - ((sv st 2).I)).toNat + 1) (fun st => t38_0 _ _ _ _) fun st => by kernel_rfl) (.nil)) rfl
noncomputable def e38 : En Tryz.prog tab := enP base [] false [] Tryz.func38 (L := L38) o38 [(.one (.dr t_int')), (.one (.int .i64))] (fun a => laws_markIntS ((rd a 0).L) ((rd a 1).I)) (fun r_ : Int × List V => ((vi r_.1), [(V.dr t_int' r_.2)])) [] [[(.dr t_int')]] [some t_int', none] true (by kernel_rfl) fun _ => gA (g2 fun _ => g4) (by kernel_rfl)
noncomputable def e13 : En Tryz.prog tab := enP base [e36, e37, e38] false [] Tryz.func13 noLo [(.agg q44), (.one (.int .i64))] (fun a => laws_markNode (rd a 0) ((rd a 1).I)) (fun r_ : Int × List V × List V × List V × List V => ((vi r_.1), [(V.dr t_impl_Item r_.2.1), (V.dr t_bool r_.2.2.1), (V.dr t_int' r_.2.2.2.1), (V.dr t_int' r_.2.2.2.2)])) [] [[(.dr t_impl_Item)], [(.dr t_bool)], [(.dr t_int')], [(.dr t_int')]] [none, none] true (by kernel_rfl) fun _ => gA (g2 fun _ => g2 fun _ => g2 fun _ => g2 fun _ => g4) (by kernel_rfl)
noncomputable def e14 : En Tryz.prog tab := enP base [e36] false [] Tryz.func14 noLo [(.agg q45), (.one (.int .i64))] (fun a => laws_markMsg (rd a 0) ((rd a 1).I)) (fun r_ : Int × List V => ((vi r_.1), [(V.dr t_impl_Item r_.2)])) [] [[(.dr t_impl_Item)]] [none, none] true (by kernel_rfl) fun _ => gA (g2 fun _ => g4) (by kernel_rfl)
noncomputable def c15 : Cfg := cfgOf (P := Tryz.prog) (tab := tab) [e36] false []
def a15_0 (r_ : Int × List V) : List (Ex × St) := [((Ex.exit 0), (⟨[(1, (vi r_.1))], [(0, some (Blk.drow t_impl_Msg r_.2))], 1, [0]⟩ : St))]
def s15_0 : SS := ⟨[(0, (.one (.sl 0 t_impl_Msg))), (1, (.one (.int .i64))), (5, (.one (.int .i64)))], [(.drow t_impl_Msg)], 1, [0]⟩
noncomputable def l15_0 : LE := le0 2 s15_0 (fun st => laws_markMsgS_l2 (((((br st 0).length : Nat) : Int) - ((sv st 2).I)).toNat + 1) ((sv st 1).I) ((sv st 2).I) (br st 0)) a15_0
noncomputable def L15 : Loops := ⟨fun k => (look [(2, [0, 1, 5])] k).getD [], fun _ => [], fun k => (look [(2, [1])] k).getD [], runL [l15_0]⟩
set_option maxRecDepth 100000 in
theorem t15_0 (k_ : Nat) : ∀ (k1 : Int) (i5 : Int) (r0 : List V), Agr id (pk0 a15_0) (laws_markMsgS_l2 k_ k1 i5 r0) (rounds c15 L15 (lpB Tryz.f15 0) k_ (s15_0.mk' (stv [.dead, vi k1, vi i5] [rb r0]))) := by
  induction k_ with
  | zero => exact fun _ _ _ => g0
  | succ k_ ih => exact fun _ _ _ => gA (g1 (g1 (g3 fun _ => g1 (g3 fun _ => g1 (g3 fun _ => g1 (g3 fun _ => g1 (g3 fun _ => g1 (g3 fun _ => g1 (g2 fun _ => g1 (g3 fun _ => g3 fun _ => g1 (g3 fun _ => ih _ _ _) g0) g0) g0) g0) g0) g0) g0) g0) g0) g4) (by kernel_rfl)
theorem o15 : LoopsOk c15 L15 (bodyOf Tryz.f15) := GoodAll.ok (l := [l15_0]) (.cons 0 (by kernel_rfl) (gd0 (fun st => ((((br st 0).length : Nat) : Int) - ((sv st 2).I)).toNat + 1) (fun st => t15_0 _ _ _ _) fun st => by kernel_rfl) (.nil)) rfl
noncomputable def e15 : En Tryz.prog tab := enP base [e36] false [] Tryz.func15 (L := L15) o15 [(.one (.dr t_impl_Msg)), (.one (.int .i64))] (fun a => laws_markMsgS ((rd a 0).L) ((rd a 1).I)) (fun r_ : Int × List V => ((vi r_.1), [(V.dr t_impl_Msg r_.2)])) [] [[(.dr t_impl_Msg)]] [some t_impl_Msg, none] true (by kernel_rfl) fun _ => gA (g2 fun _ => g4) (by kernel_rfl)
noncomputable def c71 : Cfg := cfgOf (P := Tryz.prog) (tab := tab) [] false []
def a71_0 (r_ : Nat × Int × Int) : List (Ex × St) := [(Ex.ret, (⟨[(1, (vi r_.2.1)), (4, (vi r_.2.2))], [], 0, []⟩ : St)), ((Ex.exit 0), (⟨[(1, (vi r_.2.1)), (4, V.dead)], [], 0, []⟩ : St))]
def s71_0 : SS := ⟨[(0, (.one (.inl t_byte))), (1, (.one (.int .i64))), (5, (.one (.int .i64)))], [], 0, []⟩
noncomputable def l71_0 : LE := le1 2 s71_0 (fun st => laws_heldByteS_l2 ((((((sv st 0).L).length : Nat) : Int) - ((sv st 2).I)).toNat + 1) ((sv st 0).L) ((sv st 1).I) ((sv st 2).I)) a71_0
noncomputable def L71 : Loops := ⟨fun k => (look [(2, [0, 1, 5])] k).getD [], fun _ => [], fun k => (look [(2, [1, 4])] k).getD [], runL [l71_0]⟩
theorem t71_0 (k_ : Nat) : ∀ (a0 : List V) (k1 : Int) (i5 : Int), Agr id (pk1 a71_0) (laws_heldByteS_l2 k_ a0 k1 i5) (rounds c71 L71 (lpB Tryz.f71 0) k_ (s71_0.mk' (stv [V.inl 0 a0, vi k1, vi i5] []))) := by
  induction k_ with
  | zero => exact fun _ _ _ => g0
  | succ k_ ih => exact fun _ _ _ => gA (g1 (g1 (g1 g4 (ih _ _ _)) g0) g4) (by kernel_rfl)
theorem o71 : LoopsOk c71 L71 (bodyOf Tryz.f71) := GoodAll.ok (l := [l71_0]) (.cons 0 (by kernel_rfl) (gd1 (fun st => (((((sv st 0).L).length : Nat) : Int) - ((sv st 2).I)).toNat + 1) (fun st => t71_0 _ _ _ _) fun st => by kernel_rfl) (.nil)) rfl
noncomputable def e71 : En Tryz.prog tab := enP base [] false [] Tryz.func71 (L := L71) o71 [(.one (.inl t_byte)), (.one (.int .i64))] (fun a => laws_heldByteS ((rd a 0).L) ((rd a 1).I)) (fun r_ : Int => ((vi r_), [])) [] [] [some t_byte, none] false (by kernel_rfl) fun _ => gA (g2 fun _ => g1 g4 g4) (by kernel_rfl)
noncomputable def c39 : Cfg := cfgOf (P := Tryz.prog) (tab := tab) [e71] false []
def a39_0 (r_ : Nat × Int × Int) : List (Ex × St) := [(Ex.ret, (⟨[(1, (vi r_.2.1)), (4, (vi r_.2.2))], [], 0, []⟩ : St)), ((Ex.exit 0), (⟨[(1, (vi r_.2.1)), (4, V.dead)], [], 0, []⟩ : St))]
def s39_0 : SS := ⟨[(0, (.one (.inl t_impl_Item))), (1, (.one (.int .i64))), (5, (.one (.int .i64)))], [], 0, []⟩
noncomputable def l39_0 : LE := le1 2 s39_0 (fun st => laws_heldItemS_l2 ((((((sv st 0).L).length : Nat) : Int) - ((sv st 2).I)).toNat + 1) ((sv st 0).L) ((sv st 1).I) ((sv st 2).I)) a39_0
noncomputable def L39 : Loops := ⟨fun k => (look [(2, [0, 1, 5])] k).getD [], fun _ => [], fun k => (look [(2, [1, 4])] k).getD [], runL [l39_0]⟩
set_option maxRecDepth 100000 in
theorem t39_0 (k_ : Nat) : ∀ (a0 : List V) (k1 : Int) (i5 : Int), Agr id (pk1 a39_0) (laws_heldItemS_l2 k_ a0 k1 i5) (rounds c39 L39 (lpB Tryz.f39 0) k_ (s39_0.mk' (stv [V.inl 0 a0, vi k1, vi i5] []))) := by
  induction k_ with
  | zero => exact fun _ _ _ => g0
  | succ k_ ih => exact fun _ _ _ => gA (g1 (g1 (g1 g4 (g1 (g1 g4 (g1 (g1 g4 (g1 (g1 g4 (g1 (g2 fun _ => g1 g4 (g1 (g2 fun _ => g1 g4 (g1 (g1 g4 (ih _ _ _)) g0)) g0)) g0)) g0)) g0)) g0)) g0) g4) (by kernel_rfl)
theorem o39 : LoopsOk c39 L39 (bodyOf Tryz.f39) := GoodAll.ok (l := [l39_0]) (.cons 0 (by kernel_rfl) (gd1 (fun st => (((((sv st 0).L).length : Nat) : Int) - ((sv st 2).I)).toNat + 1) (fun st => t39_0 _ _ _ _) fun st => by kernel_rfl) (.nil)) rfl
noncomputable def e39 : En Tryz.prog tab := enP base [e71] false [] Tryz.func39 (L := L39) o39 [(.one (.inl t_impl_Item)), (.one (.int .i64))] (fun a => laws_heldItemS ((rd a 0).L) ((rd a 1).I)) (fun r_ : Int => ((vi r_), [])) [] [] [some t_impl_Item, none] false (by kernel_rfl) fun _ => gA (g2 fun _ => g1 g4 g4) (by kernel_rfl)
noncomputable def c40 : Cfg := cfgOf (P := Tryz.prog) (tab := tab) [] false []
def a40_0 (r_ : Nat × Int × Int) : List (Ex × St) := [(Ex.ret, (⟨[(1, (vi r_.2.1)), (4, (vi r_.2.2))], [], 0, []⟩ : St)), ((Ex.exit 0), (⟨[(1, (vi r_.2.1)), (4, V.dead)], [], 0, []⟩ : St))]
def s40_0 : SS := ⟨[(0, (.one (.inl t_bool))), (1, (.one (.int .i64))), (5, (.one (.int .i64)))], [], 0, []⟩
noncomputable def l40_0 : LE := le1 2 s40_0 (fun st => laws_heldBoolS_l2 ((((((sv st 0).L).length : Nat) : Int) - ((sv st 2).I)).toNat + 1) ((sv st 0).L) ((sv st 1).I) ((sv st 2).I)) a40_0
noncomputable def L40 : Loops := ⟨fun k => (look [(2, [0, 1, 5])] k).getD [], fun _ => [], fun k => (look [(2, [1, 4])] k).getD [], runL [l40_0]⟩
theorem t40_0 (k_ : Nat) : ∀ (a0 : List V) (k1 : Int) (i5 : Int), Agr id (pk1 a40_0) (laws_heldBoolS_l2 k_ a0 k1 i5) (rounds c40 L40 (lpB Tryz.f40 0) k_ (s40_0.mk' (stv [V.inl 0 a0, vi k1, vi i5] []))) := by
  induction k_ with
  | zero => exact fun _ _ _ => g0
  | succ k_ ih => exact fun _ _ _ => gA (g1 (g1 (g1 g4 (ih _ _ _)) g0) g4) (by kernel_rfl)
theorem o40 : LoopsOk c40 L40 (bodyOf Tryz.f40) := GoodAll.ok (l := [l40_0]) (.cons 0 (by kernel_rfl) (gd1 (fun st => (((((sv st 0).L).length : Nat) : Int) - ((sv st 2).I)).toNat + 1) (fun st => t40_0 _ _ _ _) fun st => by kernel_rfl) (.nil)) rfl
noncomputable def e40 : En Tryz.prog tab := enP base [] false [] Tryz.func40 (L := L40) o40 [(.one (.inl t_bool)), (.one (.int .i64))] (fun a => laws_heldBoolS ((rd a 0).L) ((rd a 1).I)) (fun r_ : Int => ((vi r_), [])) [] [] [some t_bool, none] false (by kernel_rfl) fun _ => gA (g2 fun _ => g1 g4 g4) (by kernel_rfl)
noncomputable def c41 : Cfg := cfgOf (P := Tryz.prog) (tab := tab) [] false []
def a41_0 (r_ : Nat × Int × Int) : List (Ex × St) := [(Ex.ret, (⟨[(1, (vi r_.2.1)), (4, (vi r_.2.2))], [], 0, []⟩ : St)), ((Ex.exit 0), (⟨[(1, (vi r_.2.1)), (4, V.dead)], [], 0, []⟩ : St))]
def s41_0 : SS := ⟨[(0, (.one (.inl t_int'))), (1, (.one (.int .i64))), (5, (.one (.int .i64)))], [], 0, []⟩
noncomputable def l41_0 : LE := le1 2 s41_0 (fun st => laws_heldIntS_l2 ((((((sv st 0).L).length : Nat) : Int) - ((sv st 2).I)).toNat + 1) ((sv st 0).L) ((sv st 1).I) ((sv st 2).I)) a41_0
noncomputable def L41 : Loops := ⟨fun k => (look [(2, [0, 1, 5])] k).getD [], fun _ => [], fun k => (look [(2, [1, 4])] k).getD [], runL [l41_0]⟩
theorem t41_0 (k_ : Nat) : ∀ (a0 : List V) (k1 : Int) (i5 : Int), Agr id (pk1 a41_0) (laws_heldIntS_l2 k_ a0 k1 i5) (rounds c41 L41 (lpB Tryz.f41 0) k_ (s41_0.mk' (stv [V.inl 0 a0, vi k1, vi i5] []))) := by
  induction k_ with
  | zero => exact fun _ _ _ => g0
  | succ k_ ih => exact fun _ _ _ => gA (g1 (g1 (g1 g4 (ih _ _ _)) g0) g4) (by kernel_rfl)
theorem o41 : LoopsOk c41 L41 (bodyOf Tryz.f41) := GoodAll.ok (l := [l41_0]) (.cons 0 (by kernel_rfl) (gd1 (fun st => (((((sv st 0).L).length : Nat) : Int) - ((sv st 2).I)).toNat + 1) (fun st => t41_0 _ _ _ _) fun st => by kernel_rfl) (.nil)) rfl
noncomputable def e41 : En Tryz.prog tab := enP base [] false [] Tryz.func41 (L := L41) o41 [(.one (.inl t_int')), (.one (.int .i64))] (fun a => laws_heldIntS ((rd a 0).L) ((rd a 1).I)) (fun r_ : Int => ((vi r_), [])) [] [] [some t_int', none] false (by kernel_rfl) fun _ => gA (g2 fun _ => g1 g4 g4) (by kernel_rfl)
set_option maxRecDepth 100000 in
noncomputable def e16 : En Tryz.prog tab := enP base [e39, e40, e41] false [] Tryz.func16 noLo [(.agg q16), (.one (.int .i64))] (fun a => laws_heldNode (rd a 0) ((rd a 1).I)) (fun r_ : Int => ((vi r_), [])) [] [] [none, none] false (by kernel_rfl) fun _ => gA (g2 fun _ => g1 g4 (g2 fun _ => g1 g4 (g2 fun _ => g1 g4 (g2 fun _ => g1 g4 g4)))) (by kernel_rfl)
noncomputable def c17 : Cfg := cfgOf (P := Tryz.prog) (tab := tab) [e39] false []
def a17_0 (r_ : Nat × Int × Int) : List (Ex × St) := [(Ex.ret, (⟨[(1, (vi r_.2.1)), (4, (vi r_.2.2))], [], 0, []⟩ : St)), ((Ex.exit 0), (⟨[(1, (vi r_.2.1)), (4, V.dead)], [], 0, []⟩ : St))]
def s17_0 : SS := ⟨[(0, (.one (.inl t_impl_Msg))), (1, (.one (.int .i64))), (5, (.one (.int .i64)))], [], 0, []⟩
noncomputable def l17_0 : LE := le1 2 s17_0 (fun st => laws_heldMsgS_l2 ((((((sv st 0).L).length : Nat) : Int) - ((sv st 2).I)).toNat + 1) ((sv st 0).L) ((sv st 1).I) ((sv st 2).I)) a17_0
noncomputable def L17 : Loops := ⟨fun k => (look [(2, [0, 1, 5])] k).getD [], fun _ => [], fun k => (look [(2, [1, 4])] k).getD [], runL [l17_0]⟩
set_option maxRecDepth 100000 in
theorem t17_0 (k_ : Nat) : ∀ (a0 : List V) (k1 : Int) (i5 : Int), Agr id (pk1 a17_0) (laws_heldMsgS_l2 k_ a0 k1 i5) (rounds c17 L17 (lpB Tryz.f17 0) k_ (s17_0.mk' (stv [V.inl 0 a0, vi k1, vi i5] []))) := by
  induction k_ with
  | zero => exact fun _ _ _ => g0
  | succ k_ ih => exact fun _ _ _ => gA (g1 (g1 (g1 g4 (g1 (g1 g4 (g1 (g1 g4 (g1 (g1 g4 (g1 (g1 g4 (g1 (g1 g4 (g1 (g2 fun _ => g1 g4 (g1 (g1 g4 (g1 (g1 g4 (ih _ _ _)) g0)) g0)) g0)) g0)) g0)) g0)) g0)) g0)) g0) g4) (by kernel_rfl)
theorem o17 : LoopsOk c17 L17 (bodyOf Tryz.f17) := GoodAll.ok (l := [l17_0]) (.cons 0 (by kernel_rfl) (gd1 (fun st => (((((sv st 0).L).length : Nat) : Int) - ((sv st 2).I)).toNat + 1) (fun st => t17_0 _ _ _ _) fun st => by kernel_rfl) (.nil)) rfl
noncomputable def e17 : En Tryz.prog tab := enP base [e39] false [] Tryz.func17 (L := L17) o17 [(.one (.inl t_impl_Msg)), (.one (.int .i64))] (fun a => laws_heldMsgS ((rd a 0).L) ((rd a 1).I)) (fun r_ : Int => ((vi r_), [])) [] [] [some t_impl_Msg, none] false (by kernel_rfl) fun _ => gA (g2 fun _ => g1 g4 g4) (by kernel_rfl)
set_option maxRecDepth 100000 in
noncomputable def e3 : En Tryz.prog tab := enP base [e4, e5, e7, e8, e6, e9, e10, e11, e12, e13, e14, e15, e16, e17] true [] Tryz.func3 noLo [(.agg q3), (.one (.int .i64)), (.agg q4)] (fun a => laws_FnExactHear (rd a 0) ((rd a 1).I) (rd a 2)) (fun r_ : Bool => ((V.bool r_), [])) [] [] [none, none, none] false (by kernel_rfl) fun _ => gA (g2 fun _ => g1 g4 (g2 fun _ => g1 g4 (g2 fun _ => g2 fun _ => g2 fun _ => g2 fun _ => g2 fun _ => g2 fun _ => g2 fun _ => g1 g4 (g2 fun _ => g1 g4 (g2 fun _ => g2 fun _ => g1 g4 (g2 fun _ => g2 fun _ => g1 g4 (g2 fun _ => g2 fun _ => g1 g4 (g2 fun _ => g1 g4 (g2 fun _ => g1 g4 (g2 fun _ => g2 fun _ => g2 fun _ => g1 g4 (g2 fun _ => g1 g4 (g1 g4 (g2 fun _ => g2 fun _ => g2 fun _ => g2 fun _ => g1 g4 (g2 fun _ => g1 g4 (g2 fun _ => g1 g4 (g2 fun _ => g1 g4 (g1 g4 g4))))))))))))))))) (by kernel_rfl)
end Go.Eng.R
open Go Go.Eng
namespace Go.Eng.R
def M_byte (x : V) (k : Int) : Prop := gi x 0 = IntKind.u8.wrap k
def M_int (x : V) (k : Int) : Prop := gi x 0 = k
def M_bool (x : V) (k : Int) : Prop := gb x 0 = decide (k.tmod 3 = 0)
def cnv_byte (x : V) : V := .int .u8 (gi x 0)
def cnv_int (x : V) : V := .int .i64 (gi x 0)
def cnv_bool (x : V) : V := .bool (gb x 0)
theorem cnv_int_W (x : V) (h : W_int x) : W_int (cnv_int x) := h
theorem cnv_int_z (x : V) : z0 (cnv_int x) = z0 x := rfl
theorem cnv_int_c (x : V) : c1 (cnv_int x) = c1 x := rfl
theorem cnv_bool_W (x : V) (h : W_bool x) : W_bool (cnv_bool x) := h
theorem cnv_bool_z (x : V) : z0 (cnv_bool x) = z0 x := rfl
theorem cnv_bool_c (x : V) : c1 (cnv_bool x) = c1 x := rfl
theorem cnv_byte_W (x : V) (h : W_byte x) : W_byte (cnv_byte x) := h
theorem cnv_byte_z (x : V) : z0 (cnv_byte x) = z0 x := rfl
theorem cnv_byte_c (x : V) : c1 (cnv_byte x) = c1 x := rfl
def W_Item (x : V) : Prop := I64 (gi x 0) ∧ I64 (gi x 1) ∧ I64 (gi x 2) ∧ I64 (gi x 3) ∧ LW W_byte (gl x 4) ∧ LW W_byte (gl x 5) ∧ I64 (gi x 6)
def z_Item (x : V) : Nat := zS z0 (gl x 4) + zS z0 (gl x 5)
def c_Item (x : V) : Nat := 1 + 1 + 1 + 1 + sumL c1 (gl x 4) + sumL c1 (gl x 5) + 1
def ct_Item (x : V) : Nat := sumL c1 (gl x 4) + sumL c1 (gl x 5)
def M_Item (x : V) (k : Int) : Prop := gi x 0 = k ∧ gi x 1 = k + 1 ∧ gi x 2 = k + 1 + 1 ∧ gi x 3 = k + 1 + 1 + 1 ∧ MS c1 M_byte (gl x 4) (k + 1 + 1 + 1 + 1) ∧ MS c1 M_byte (gl x 5) (k + 1 + 1 + 1 + 1 + ((sumL c1 (gl x 4) : Nat) : Int)) ∧ gi x 6 = k + 1 + 1 + 1 + 1 + ((sumL c1 (gl x 4) : Nat) : Int) + ((sumL c1 (gl x 5) : Nat) : Int)
def cnv_Item (x : V) : V := V.agg [(V.int .i64 (gi x 0)), (V.int .i64 (gi x 1)), (V.int .i64 (gi x 2)), (V.int .i64 (gi x 3)), V.inl t_byte ((gl x 4).map cnv_byte), V.inl t_byte ((gl x 5).map cnv_byte), (V.int .i64 (gi x 6))]
theorem cnv_Item_W (x : V) (h : W_Item x) : W_Item (cnv_Item x) := ⟨h.1, h.2.1, h.2.2.1, h.2.2.2.1, LW.map (h := cnv_byte) cnv_byte_W (h.2.2.2.2.1), LW.map (h := cnv_byte) cnv_byte_W (h.2.2.2.2.2.1), h.2.2.2.2.2.2⟩
theorem cnv_Item_z (x : V) : z_Item (cnv_Item x) = z_Item x := by
  simp only [z_Item, show gl (cnv_Item x) 4 = (gl x 4).map cnv_byte from rfl, show gl (cnv_Item x) 5 = (gl x 5).map cnv_byte from rfl, zS_map (h := cnv_byte) cnv_byte_z (gl x 4), zS_map (h := cnv_byte) cnv_byte_z (gl x 5)]
theorem cnv_Item_c (x : V) : c_Item (cnv_Item x) = c_Item x := by
  simp only [c_Item, show gl (cnv_Item x) 4 = (gl x 4).map cnv_byte from rfl, show gl (cnv_Item x) 5 = (gl x 5).map cnv_byte from rfl, sumL_map (h := cnv_byte) cnv_byte_c (gl x 4), sumL_map (h := cnv_byte) cnv_byte_c (gl x 5)]
theorem cnv_Item_ct (x : V) : ct_Item (cnv_Item x) = ct_Item x := by
  simp only [ct_Item, show gl (cnv_Item x) 4 = (gl x 4).map cnv_byte from rfl, show gl (cnv_Item x) 5 = (gl x 5).map cnv_byte from rfl, sumL_map (h := cnv_byte) cnv_byte_c (gl x 4), sumL_map (h := cnv_byte) cnv_byte_c (gl x 5)]
theorem c_Item_cz (x : V) : c_Item x ≤ 5 * (1 + z_Item x) := by
  have h0 : sumL c1 (gl x 4) ≤ 1 * zS z0 (gl x 4) := by rw [sumL_c1, zS_z0]; omega
  have h1 : sumL c1 (gl x 5) ≤ 1 * zS z0 (gl x 5) := by rw [sumL_c1, zS_z0]; omega
  simp only [c_Item, z_Item]; omega
theorem ct_Item_cz (x : V) : ct_Item x ≤ 5 * z_Item x := by
  have h0 : sumL c1 (gl x 4) ≤ 1 * zS z0 (gl x 4) := by rw [sumL_c1, zS_z0]; omega
  have h1 : sumL c1 (gl x 5) ≤ 1 * zS z0 (gl x 5) := by rw [sumL_c1, zS_z0]; omega
  simp only [ct_Item, z_Item]; omega
def W_Node (x : V) : Prop := I64 (gi x 0) ∧ I64 (gi x 1) ∧ I64 (gi x 2) ∧ LW W_Item (gl x 3) ∧ I64 (gi x 4) ∧ I64 (gi x 5) ∧ I64 (gi x 6) ∧ I64 (gi x 7) ∧ LW W_bool (gl x 8) ∧ LW W_int (gl x 9) ∧ LW W_int (gl x 10)
def z_Node (x : V) : Nat := zS z_Item (gl x 3) + zS z0 (gl x 8) + zS z0 (gl x 9) + zS z0 (gl x 10)
def c_Node (x : V) : Nat := 1 + 1 + 1 + sumL c_Item (gl x 3) + 1 + 1 + 1 + 1 + sumL c1 (gl x 8) + sumL c1 (gl x 9) + sumL c1 (gl x 10)
def ct_Node (x : V) : Nat := sumL c_Item (gl x 3) + sumL c1 (gl x 8) + sumL c1 (gl x 9) + sumL c1 (gl x 10)
def M_Node (x : V) (k : Int) : Prop := gi x 0 = k ∧ gi x 1 = k + 1 ∧ gi x 2 = k + 1 + 1 ∧ MS c_Item M_Item (gl x 3) (k + 1 + 1 + 1) ∧ gi x 4 = k + 1 + 1 + 1 + ((sumL c_Item (gl x 3) : Nat) : Int) ∧ gi x 5 = k + 1 + 1 + 1 + ((sumL c_Item (gl x 3) : Nat) : Int) + 1 ∧ gi x 6 = k + 1 + 1 + 1 + ((sumL c_Item (gl x 3) : Nat) : Int) + 1 + 1 ∧ gi x 7 = k + 1 + 1 + 1 + ((sumL c_Item (gl x 3) : Nat) : Int) + 1 + 1 + 1 ∧ MS c1 M_bool (gl x 8) (k + 1 + 1 + 1 + ((sumL c_Item (gl x 3) : Nat) : Int) + 1 + 1 + 1 + 1) ∧ MS c1 M_int (gl x 9) (k + 1 + 1 + 1 + ((sumL c_Item (gl x 3) : Nat) : Int) + 1 + 1 + 1 + 1 + ((sumL c1 (gl x 8) : Nat) : Int)) ∧ MS c1 M_int (gl x 10) (k + 1 + 1 + 1 + ((sumL c_Item (gl x 3) : Nat) : Int) + 1 + 1 + 1 + 1 + ((sumL c1 (gl x 8) : Nat) : Int) + ((sumL c1 (gl x 9) : Nat) : Int))
def cnv_Node (x : V) : V := V.agg [(V.int .i64 (gi x 0)), (V.int .i64 (gi x 1)), (V.int .i64 (gi x 2)), V.inl t_impl_Item ((gl x 3).map cnv_Item), (V.int .i64 (gi x 4)), (V.int .i64 (gi x 5)), (V.int .i64 (gi x 6)), (V.int .i64 (gi x 7)), V.inl t_bool ((gl x 8).map cnv_bool), V.inl t_int' ((gl x 9).map cnv_int), V.inl t_int' ((gl x 10).map cnv_int)]
theorem cnv_Node_W (x : V) (h : W_Node x) : W_Node (cnv_Node x) := ⟨h.1, h.2.1, h.2.2.1, LW.map (h := cnv_Item) cnv_Item_W (h.2.2.2.1), h.2.2.2.2.1, h.2.2.2.2.2.1, h.2.2.2.2.2.2.1, h.2.2.2.2.2.2.2.1, LW.map (h := cnv_bool) cnv_bool_W (h.2.2.2.2.2.2.2.2.1), LW.map (h := cnv_int) cnv_int_W (h.2.2.2.2.2.2.2.2.2.1), LW.map (h := cnv_int) cnv_int_W (h.2.2.2.2.2.2.2.2.2.2)⟩
theorem cnv_Node_z (x : V) : z_Node (cnv_Node x) = z_Node x := by
  simp only [z_Node, show gl (cnv_Node x) 3 = (gl x 3).map cnv_Item from rfl, show gl (cnv_Node x) 8 = (gl x 8).map cnv_bool from rfl, show gl (cnv_Node x) 9 = (gl x 9).map cnv_int from rfl, show gl (cnv_Node x) 10 = (gl x 10).map cnv_int from rfl, zS_map (h := cnv_Item) cnv_Item_z (gl x 3), zS_map (h := cnv_bool) cnv_bool_z (gl x 8), zS_map (h := cnv_int) cnv_int_z (gl x 9), zS_map (h := cnv_int) cnv_int_z (gl x 10)]
theorem cnv_Node_c (x : V) : c_Node (cnv_Node x) = c_Node x := by
  simp only [c_Node, show gl (cnv_Node x) 3 = (gl x 3).map cnv_Item from rfl, show gl (cnv_Node x) 8 = (gl x 8).map cnv_bool from rfl, show gl (cnv_Node x) 9 = (gl x 9).map cnv_int from rfl, show gl (cnv_Node x) 10 = (gl x 10).map cnv_int from rfl, sumL_map (h := cnv_Item) cnv_Item_c (gl x 3), sumL_map (h := cnv_bool) cnv_bool_c (gl x 8), sumL_map (h := cnv_int) cnv_int_c (gl x 9), sumL_map (h := cnv_int) cnv_int_c (gl x 10)]
theorem cnv_Node_ct (x : V) : ct_Node (cnv_Node x) = ct_Node x := by
  simp only [ct_Node, show gl (cnv_Node x) 3 = (gl x 3).map cnv_Item from rfl, show gl (cnv_Node x) 8 = (gl x 8).map cnv_bool from rfl, show gl (cnv_Node x) 9 = (gl x 9).map cnv_int from rfl, show gl (cnv_Node x) 10 = (gl x 10).map cnv_int from rfl, sumL_map (h := cnv_Item) cnv_Item_c (gl x 3), sumL_map (h := cnv_bool) cnv_bool_c (gl x 8), sumL_map (h := cnv_int) cnv_int_c (gl x 9), sumL_map (h := cnv_int) cnv_int_c (gl x 10)]
theorem c_Node_cz (x : V) : c_Node x ≤ 7 * (1 + z_Node x) := by
  have h0 : sumL c_Item (gl x 3) ≤ 5 * zS z_Item (gl x 3) := sumL_mul 5 fun y _ => c_Item_cz y
  have h1 : sumL c1 (gl x 8) ≤ 1 * zS z0 (gl x 8) := by rw [sumL_c1, zS_z0]; omega
  have h2 : sumL c1 (gl x 9) ≤ 1 * zS z0 (gl x 9) := by rw [sumL_c1, zS_z0]; omega
  have h3 : sumL c1 (gl x 10) ≤ 1 * zS z0 (gl x 10) := by rw [sumL_c1, zS_z0]; omega
  simp only [c_Node, z_Node]; omega
theorem ct_Node_cz (x : V) : ct_Node x ≤ 7 * z_Node x := by
  have h0 : sumL c_Item (gl x 3) ≤ 5 * zS z_Item (gl x 3) := sumL_mul 5 fun y _ => c_Item_cz y
  have h1 : sumL c1 (gl x 8) ≤ 1 * zS z0 (gl x 8) := by rw [sumL_c1, zS_z0]; omega
  have h2 : sumL c1 (gl x 9) ≤ 1 * zS z0 (gl x 9) := by rw [sumL_c1, zS_z0]; omega
  have h3 : sumL c1 (gl x 10) ≤ 1 * zS z0 (gl x 10) := by rw [sumL_c1, zS_z0]; omega
  simp only [ct_Node, z_Node]; omega
def W_Msg (x : V) : Prop := I64 (gi x 0) ∧ I64 (gi x 1) ∧ I64 (gi x 2) ∧ I64 (gi x 3) ∧ I64 (gi x 4) ∧ I64 (gi x 5) ∧ LW W_Item (gl x 6) ∧ I64 (gi x 7) ∧ True
def z_Msg (x : V) : Nat := zS z_Item (gl x 6)
def c_Msg (x : V) : Nat := 1 + 1 + 1 + 1 + 1 + 1 + sumL c_Item (gl x 6) + 1 + 1
def ct_Msg (x : V) : Nat := sumL c_Item (gl x 6)
def M_Msg (x : V) (k : Int) : Prop := gi x 0 = k ∧ gi x 1 = k + 1 ∧ gi x 2 = k + 1 + 1 ∧ gi x 3 = k + 1 + 1 + 1 ∧ gi x 4 = k + 1 + 1 + 1 + 1 ∧ gi x 5 = k + 1 + 1 + 1 + 1 + 1 ∧ MS c_Item M_Item (gl x 6) (k + 1 + 1 + 1 + 1 + 1 + 1) ∧ gi x 7 = k + 1 + 1 + 1 + 1 + 1 + 1 + ((sumL c_Item (gl x 6) : Nat) : Int) ∧ gb x 8 = decide ((k + 1 + 1 + 1 + 1 + 1 + 1 + ((sumL c_Item (gl x 6) : Nat) : Int) + 1).tmod 3 = 0)
def cnv_Msg (x : V) : V := V.agg [(V.int .i64 (gi x 0)), (V.int .i64 (gi x 1)), (V.int .i64 (gi x 2)), (V.int .i64 (gi x 3)), (V.int .i64 (gi x 4)), (V.int .i64 (gi x 5)), V.inl t_impl_Item ((gl x 6).map cnv_Item), (V.int .i64 (gi x 7)), (V.bool (gb x 8))]
theorem cnv_Msg_W (x : V) (h : W_Msg x) : W_Msg (cnv_Msg x) := ⟨h.1, h.2.1, h.2.2.1, h.2.2.2.1, h.2.2.2.2.1, h.2.2.2.2.2.1, LW.map (h := cnv_Item) cnv_Item_W (h.2.2.2.2.2.2.1), h.2.2.2.2.2.2.2.1, h.2.2.2.2.2.2.2.2⟩
theorem cnv_Msg_z (x : V) : z_Msg (cnv_Msg x) = z_Msg x := by
  simp only [z_Msg, show gl (cnv_Msg x) 6 = (gl x 6).map cnv_Item from rfl, zS_map (h := cnv_Item) cnv_Item_z (gl x 6)]
theorem cnv_Msg_c (x : V) : c_Msg (cnv_Msg x) = c_Msg x := by
  simp only [c_Msg, show gl (cnv_Msg x) 6 = (gl x 6).map cnv_Item from rfl, sumL_map (h := cnv_Item) cnv_Item_c (gl x 6)]
theorem cnv_Msg_ct (x : V) : ct_Msg (cnv_Msg x) = ct_Msg x := by
  simp only [ct_Msg, show gl (cnv_Msg x) 6 = (gl x 6).map cnv_Item from rfl, sumL_map (h := cnv_Item) cnv_Item_c (gl x 6)]
theorem c_Msg_cz (x : V) : c_Msg x ≤ 8 * (1 + z_Msg x) := by
  have h0 : sumL c_Item (gl x 6) ≤ 5 * zS z_Item (gl x 6) := sumL_mul 5 fun y _ => c_Item_cz y
  simp only [c_Msg, z_Msg]; omega
theorem ct_Msg_cz (x : V) : ct_Msg x ≤ 8 * z_Msg x := by
  have h0 : sumL c_Item (gl x 6) ≤ 5 * zS z_Item (gl x 6) := sumL_mul 5 fun y _ => c_Item_cz y
  simp only [ct_Msg, z_Msg]; omega
def W_Op (x : V) : Prop := I64 (gi x 0) ∧ LW W_byte (gl x 1) ∧ LW W_byte (gl x 2) ∧ I64 (gi x 3)
def z_Op (x : V) : Nat := zS z0 (gl x 1) + zS z0 (gl x 2)
def c_Op (x : V) : Nat := 1 + sumL c1 (gl x 1) + sumL c1 (gl x 2) + 1
def ct_Op (x : V) : Nat := sumL c1 (gl x 1) + sumL c1 (gl x 2)
def M_Op (x : V) (k : Int) : Prop := gi x 0 = k ∧ MS c1 M_byte (gl x 1) (k + 1) ∧ MS c1 M_byte (gl x 2) (k + 1 + ((sumL c1 (gl x 1) : Nat) : Int)) ∧ gi x 3 = k + 1 + ((sumL c1 (gl x 1) : Nat) : Int) + ((sumL c1 (gl x 2) : Nat) : Int)
def cnv_Op (x : V) : V := V.agg [(V.int .i64 (gi x 0)), V.inl t_byte ((gl x 1).map cnv_byte), V.inl t_byte ((gl x 2).map cnv_byte), (V.int .i64 (gi x 3))]
theorem cnv_Op_W (x : V) (h : W_Op x) : W_Op (cnv_Op x) := ⟨h.1, LW.map (h := cnv_byte) cnv_byte_W (h.2.1), LW.map (h := cnv_byte) cnv_byte_W (h.2.2.1), h.2.2.2⟩
theorem cnv_Op_z (x : V) : z_Op (cnv_Op x) = z_Op x := by
  simp only [z_Op, show gl (cnv_Op x) 1 = (gl x 1).map cnv_byte from rfl, show gl (cnv_Op x) 2 = (gl x 2).map cnv_byte from rfl, zS_map (h := cnv_byte) cnv_byte_z (gl x 1), zS_map (h := cnv_byte) cnv_byte_z (gl x 2)]
theorem cnv_Op_c (x : V) : c_Op (cnv_Op x) = c_Op x := by
  simp only [c_Op, show gl (cnv_Op x) 1 = (gl x 1).map cnv_byte from rfl, show gl (cnv_Op x) 2 = (gl x 2).map cnv_byte from rfl, sumL_map (h := cnv_byte) cnv_byte_c (gl x 1), sumL_map (h := cnv_byte) cnv_byte_c (gl x 2)]
theorem cnv_Op_ct (x : V) : ct_Op (cnv_Op x) = ct_Op x := by
  simp only [ct_Op, show gl (cnv_Op x) 1 = (gl x 1).map cnv_byte from rfl, show gl (cnv_Op x) 2 = (gl x 2).map cnv_byte from rfl, sumL_map (h := cnv_byte) cnv_byte_c (gl x 1), sumL_map (h := cnv_byte) cnv_byte_c (gl x 2)]
theorem c_Op_cz (x : V) : c_Op x ≤ 2 * (1 + z_Op x) := by
  have h0 : sumL c1 (gl x 1) ≤ 1 * zS z0 (gl x 1) := by rw [sumL_c1, zS_z0]; omega
  have h1 : sumL c1 (gl x 2) ≤ 1 * zS z0 (gl x 2) := by rw [sumL_c1, zS_z0]; omega
  simp only [c_Op, z_Op]; omega
theorem ct_Op_cz (x : V) : ct_Op x ≤ 2 * z_Op x := by
  have h0 : sumL c1 (gl x 1) ≤ 1 * zS z0 (gl x 1) := by rw [sumL_c1, zS_z0]; omega
  have h1 : sumL c1 (gl x 2) ≤ 1 * zS z0 (gl x 2) := by rw [sumL_c1, zS_z0]; omega
  simp only [ct_Op, z_Op]; omega
def W_Cmd (x : V) : Prop := I64 (gi x 0) ∧ I64 (gi x 1) ∧ I64 (gi x 2) ∧ LW W_byte (gl x 3) ∧ LW W_byte (gl x 4) ∧ I64 (gi x 5)
def z_Cmd (x : V) : Nat := zS z0 (gl x 3) + zS z0 (gl x 4)
def c_Cmd (x : V) : Nat := 1 + 1 + 1 + sumL c1 (gl x 3) + sumL c1 (gl x 4) + 1
def ct_Cmd (x : V) : Nat := sumL c1 (gl x 3) + sumL c1 (gl x 4)
def M_Cmd (x : V) (k : Int) : Prop := gi x 0 = k ∧ gi x 1 = k + 1 ∧ gi x 2 = k + 1 + 1 ∧ MS c1 M_byte (gl x 3) (k + 1 + 1 + 1) ∧ MS c1 M_byte (gl x 4) (k + 1 + 1 + 1 + ((sumL c1 (gl x 3) : Nat) : Int)) ∧ gi x 5 = k + 1 + 1 + 1 + ((sumL c1 (gl x 3) : Nat) : Int) + ((sumL c1 (gl x 4) : Nat) : Int)
def cnv_Cmd (x : V) : V := V.agg [(V.int .i64 (gi x 0)), (V.int .i64 (gi x 1)), (V.int .i64 (gi x 2)), V.inl t_byte ((gl x 3).map cnv_byte), V.inl t_byte ((gl x 4).map cnv_byte), (V.int .i64 (gi x 5))]
theorem cnv_Cmd_W (x : V) (h : W_Cmd x) : W_Cmd (cnv_Cmd x) := ⟨h.1, h.2.1, h.2.2.1, LW.map (h := cnv_byte) cnv_byte_W (h.2.2.2.1), LW.map (h := cnv_byte) cnv_byte_W (h.2.2.2.2.1), h.2.2.2.2.2⟩
theorem cnv_Cmd_z (x : V) : z_Cmd (cnv_Cmd x) = z_Cmd x := by
  simp only [z_Cmd, show gl (cnv_Cmd x) 3 = (gl x 3).map cnv_byte from rfl, show gl (cnv_Cmd x) 4 = (gl x 4).map cnv_byte from rfl, zS_map (h := cnv_byte) cnv_byte_z (gl x 3), zS_map (h := cnv_byte) cnv_byte_z (gl x 4)]
theorem cnv_Cmd_c (x : V) : c_Cmd (cnv_Cmd x) = c_Cmd x := by
  simp only [c_Cmd, show gl (cnv_Cmd x) 3 = (gl x 3).map cnv_byte from rfl, show gl (cnv_Cmd x) 4 = (gl x 4).map cnv_byte from rfl, sumL_map (h := cnv_byte) cnv_byte_c (gl x 3), sumL_map (h := cnv_byte) cnv_byte_c (gl x 4)]
theorem cnv_Cmd_ct (x : V) : ct_Cmd (cnv_Cmd x) = ct_Cmd x := by
  simp only [ct_Cmd, show gl (cnv_Cmd x) 3 = (gl x 3).map cnv_byte from rfl, show gl (cnv_Cmd x) 4 = (gl x 4).map cnv_byte from rfl, sumL_map (h := cnv_byte) cnv_byte_c (gl x 3), sumL_map (h := cnv_byte) cnv_byte_c (gl x 4)]
theorem c_Cmd_cz (x : V) : c_Cmd x ≤ 4 * (1 + z_Cmd x) := by
  have h0 : sumL c1 (gl x 3) ≤ 1 * zS z0 (gl x 3) := by rw [sumL_c1, zS_z0]; omega
  have h1 : sumL c1 (gl x 4) ≤ 1 * zS z0 (gl x 4) := by rw [sumL_c1, zS_z0]; omega
  simp only [c_Cmd, z_Cmd]; omega
theorem ct_Cmd_cz (x : V) : ct_Cmd x ≤ 4 * z_Cmd x := by
  have h0 : sumL c1 (gl x 3) ≤ 1 * zS z0 (gl x 3) := by rw [sumL_c1, zS_z0]; omega
  have h1 : sumL c1 (gl x 4) ≤ 1 * zS z0 (gl x 4) := by rw [sumL_c1, zS_z0]; omega
  simp only [ct_Cmd, z_Cmd]; omega
def W_server (x : V) : Prop := I64 (gi x 0) ∧ I64 (gi x 1) ∧ I64 (gi x 2) ∧ LW W_Item (gl x 3) ∧ I64 (gi x 4) ∧ I64 (gi x 5) ∧ I64 (gi x 6) ∧ I64 (gi x 7) ∧ LW W_bool (gl x 8) ∧ LW W_int (gl x 9) ∧ LW W_int (gl x 10) ∧ LW W_Msg (gl x 11)
def z_server (x : V) : Nat := zS z_Item (gl x 3) + zS z0 (gl x 8) + zS z0 (gl x 9) + zS z0 (gl x 10) + zS z_Msg (gl x 11)
def c_server (x : V) : Nat := 1 + 1 + 1 + sumL c_Item (gl x 3) + 1 + 1 + 1 + 1 + sumL c1 (gl x 8) + sumL c1 (gl x 9) + sumL c1 (gl x 10) + sumL c_Msg (gl x 11)
def ct_server (x : V) : Nat := sumL c_Item (gl x 3) + sumL c1 (gl x 8) + sumL c1 (gl x 9) + sumL c1 (gl x 10) + sumL c_Msg (gl x 11)
def M_server (x : V) (k : Int) : Prop := gi x 0 = k ∧ gi x 1 = k + 1 ∧ gi x 2 = k + 1 + 1 ∧ MS c_Item M_Item (gl x 3) (k + 1 + 1 + 1) ∧ gi x 4 = k + 1 + 1 + 1 + ((sumL c_Item (gl x 3) : Nat) : Int) ∧ gi x 5 = k + 1 + 1 + 1 + ((sumL c_Item (gl x 3) : Nat) : Int) + 1 ∧ gi x 6 = k + 1 + 1 + 1 + ((sumL c_Item (gl x 3) : Nat) : Int) + 1 + 1 ∧ gi x 7 = k + 1 + 1 + 1 + ((sumL c_Item (gl x 3) : Nat) : Int) + 1 + 1 + 1 ∧ MS c1 M_bool (gl x 8) (k + 1 + 1 + 1 + ((sumL c_Item (gl x 3) : Nat) : Int) + 1 + 1 + 1 + 1) ∧ MS c1 M_int (gl x 9) (k + 1 + 1 + 1 + ((sumL c_Item (gl x 3) : Nat) : Int) + 1 + 1 + 1 + 1 + ((sumL c1 (gl x 8) : Nat) : Int)) ∧ MS c1 M_int (gl x 10) (k + 1 + 1 + 1 + ((sumL c_Item (gl x 3) : Nat) : Int) + 1 + 1 + 1 + 1 + ((sumL c1 (gl x 8) : Nat) : Int) + ((sumL c1 (gl x 9) : Nat) : Int)) ∧ MS c_Msg M_Msg (gl x 11) (k + 1 + 1 + 1 + ((sumL c_Item (gl x 3) : Nat) : Int) + 1 + 1 + 1 + 1 + ((sumL c1 (gl x 8) : Nat) : Int) + ((sumL c1 (gl x 9) : Nat) : Int) + ((sumL c1 (gl x 10) : Nat) : Int))
def cnv_server (x : V) : V := V.agg [(V.int .i64 (gi x 0)), (V.int .i64 (gi x 1)), (V.int .i64 (gi x 2)), V.inl t_impl_Item ((gl x 3).map cnv_Item), (V.int .i64 (gi x 4)), (V.int .i64 (gi x 5)), (V.int .i64 (gi x 6)), (V.int .i64 (gi x 7)), V.inl t_bool ((gl x 8).map cnv_bool), V.inl t_int' ((gl x 9).map cnv_int), V.inl t_int' ((gl x 10).map cnv_int), V.inl t_impl_Msg ((gl x 11).map cnv_Msg)]
theorem cnv_server_W (x : V) (h : W_server x) : W_server (cnv_server x) := ⟨h.1, h.2.1, h.2.2.1, LW.map (h := cnv_Item) cnv_Item_W (h.2.2.2.1), h.2.2.2.2.1, h.2.2.2.2.2.1, h.2.2.2.2.2.2.1, h.2.2.2.2.2.2.2.1, LW.map (h := cnv_bool) cnv_bool_W (h.2.2.2.2.2.2.2.2.1), LW.map (h := cnv_int) cnv_int_W (h.2.2.2.2.2.2.2.2.2.1), LW.map (h := cnv_int) cnv_int_W (h.2.2.2.2.2.2.2.2.2.2.1), LW.map (h := cnv_Msg) cnv_Msg_W (h.2.2.2.2.2.2.2.2.2.2.2)⟩
theorem cnv_server_z (x : V) : z_server (cnv_server x) = z_server x := by
  simp only [z_server, show gl (cnv_server x) 3 = (gl x 3).map cnv_Item from rfl, show gl (cnv_server x) 8 = (gl x 8).map cnv_bool from rfl, show gl (cnv_server x) 9 = (gl x 9).map cnv_int from rfl, show gl (cnv_server x) 10 = (gl x 10).map cnv_int from rfl, show gl (cnv_server x) 11 = (gl x 11).map cnv_Msg from rfl, zS_map (h := cnv_Item) cnv_Item_z (gl x 3), zS_map (h := cnv_bool) cnv_bool_z (gl x 8), zS_map (h := cnv_int) cnv_int_z (gl x 9), zS_map (h := cnv_int) cnv_int_z (gl x 10), zS_map (h := cnv_Msg) cnv_Msg_z (gl x 11)]
theorem cnv_server_c (x : V) : c_server (cnv_server x) = c_server x := by
  simp only [c_server, show gl (cnv_server x) 3 = (gl x 3).map cnv_Item from rfl, show gl (cnv_server x) 8 = (gl x 8).map cnv_bool from rfl, show gl (cnv_server x) 9 = (gl x 9).map cnv_int from rfl, show gl (cnv_server x) 10 = (gl x 10).map cnv_int from rfl, show gl (cnv_server x) 11 = (gl x 11).map cnv_Msg from rfl, sumL_map (h := cnv_Item) cnv_Item_c (gl x 3), sumL_map (h := cnv_bool) cnv_bool_c (gl x 8), sumL_map (h := cnv_int) cnv_int_c (gl x 9), sumL_map (h := cnv_int) cnv_int_c (gl x 10), sumL_map (h := cnv_Msg) cnv_Msg_c (gl x 11)]
theorem cnv_server_ct (x : V) : ct_server (cnv_server x) = ct_server x := by
  simp only [ct_server, show gl (cnv_server x) 3 = (gl x 3).map cnv_Item from rfl, show gl (cnv_server x) 8 = (gl x 8).map cnv_bool from rfl, show gl (cnv_server x) 9 = (gl x 9).map cnv_int from rfl, show gl (cnv_server x) 10 = (gl x 10).map cnv_int from rfl, show gl (cnv_server x) 11 = (gl x 11).map cnv_Msg from rfl, sumL_map (h := cnv_Item) cnv_Item_c (gl x 3), sumL_map (h := cnv_bool) cnv_bool_c (gl x 8), sumL_map (h := cnv_int) cnv_int_c (gl x 9), sumL_map (h := cnv_int) cnv_int_c (gl x 10), sumL_map (h := cnv_Msg) cnv_Msg_c (gl x 11)]
theorem c_server_cz (x : V) : c_server x ≤ 8 * (1 + z_server x) := by
  have h0 : sumL c_Item (gl x 3) ≤ 5 * zS z_Item (gl x 3) := sumL_mul 5 fun y _ => c_Item_cz y
  have h1 : sumL c1 (gl x 8) ≤ 1 * zS z0 (gl x 8) := by rw [sumL_c1, zS_z0]; omega
  have h2 : sumL c1 (gl x 9) ≤ 1 * zS z0 (gl x 9) := by rw [sumL_c1, zS_z0]; omega
  have h3 : sumL c1 (gl x 10) ≤ 1 * zS z0 (gl x 10) := by rw [sumL_c1, zS_z0]; omega
  have h4 : sumL c_Msg (gl x 11) ≤ 8 * zS z_Msg (gl x 11) := sumL_mul 8 fun y _ => c_Msg_cz y
  simp only [c_server, z_server]; omega
theorem ct_server_cz (x : V) : ct_server x ≤ 8 * z_server x := by
  have h0 : sumL c_Item (gl x 3) ≤ 5 * zS z_Item (gl x 3) := sumL_mul 5 fun y _ => c_Item_cz y
  have h1 : sumL c1 (gl x 8) ≤ 1 * zS z0 (gl x 8) := by rw [sumL_c1, zS_z0]; omega
  have h2 : sumL c1 (gl x 9) ≤ 1 * zS z0 (gl x 9) := by rw [sumL_c1, zS_z0]; omega
  have h3 : sumL c1 (gl x 10) ≤ 1 * zS z0 (gl x 10) := by rw [sumL_c1, zS_z0]; omega
  have h4 : sumL c_Msg (gl x 11) ≤ 8 * zS z_Msg (gl x 11) := sumL_mul 8 fun y _ => c_Msg_cz y
  simp only [ct_server, z_server]; omega
theorem laws_szByteS_ok (a : List V) (left : Int) (ha : LW W_byte a) (h0 : 0 ≤ left) (h1 : left ≤ 1048576) : ∃ r, laws_szByteS a left = r ∧ (r < 0 ∨ (0 ≤ r ∧ r ≤ 1048576 ∧ r + ((zS z0 a : Nat) : Int) = left)) := by
  have hl := ha.1
  unfold laws_szByteS
  rw [wr64' (by omega) (by omega)]
  by_cases h : left - ((a.length : Nat) : Int) < 0
  · exact ⟨-1, by simp [h], .inl (by omega)⟩
  · exact ⟨left - ((a.length : Nat) : Int), by simp [h], .inr ⟨by omega, by omega, by rw [zS_z0]; omega⟩⟩
theorem laws_szOp_ok (x : V) (left : Int) (hx : W_Op x) (h0 : 0 ≤ left) (h1 : left ≤ 1048576) : ∃ r, laws_szOp x left = r ∧ (r < 0 ∨ (0 ≤ r ∧ r ≤ 1048576 ∧ r + ((z_Op x : Nat) : Int) = left)) := by
  unfold laws_szOp
  obtain ⟨r0, e0, q0⟩ := laws_szByteS_ok (gl x 1) left hx.2.1 h0 h1
  simp only [e0, Option.bind_some]
  rcases q0 with q0 | ⟨a0, b0, s0⟩
  · exact ⟨-1, by simp only [show decide (r0 < 0) = true from by simp; omega, cond_true], .inl (by omega)⟩
  simp only [show decide (r0 < 0) = false from by simp; omega, cond_false]
  obtain ⟨r1, e1, q1⟩ := laws_szByteS_ok (gl x 2) r0 hx.2.2.1 a0 b0
  simp only [e1, Option.bind_some]
  rcases q1 with q1 | ⟨a1, b1, s1⟩
  · exact ⟨-1, by simp only [show decide (r1 < 0) = true from by simp; omega, cond_true], .inl (by omega)⟩
  simp only [show decide (r1 < 0) = false from by simp; omega, cond_false]
  exact ⟨r1, rfl, .inr ⟨a1, b1, by simp only [z_Op]; omega⟩⟩
theorem laws_szCmd_ok (x : V) (left : Int) (hx : W_Cmd x) (h0 : 0 ≤ left) (h1 : left ≤ 1048576) : ∃ r, laws_szCmd x left = r ∧ (r < 0 ∨ (0 ≤ r ∧ r ≤ 1048576 ∧ r + ((z_Cmd x : Nat) : Int) = left)) := by
  unfold laws_szCmd
  obtain ⟨r0, e0, q0⟩ := laws_szOp_ok (V.agg [(V.int .i64 (gi x 2)), (V.inl t_byte (gl x 3)), (V.inl t_byte (gl x 4)), (V.int .i64 (gi x 5))]) left ⟨hx.2.2.1, hx.2.2.2.1, hx.2.2.2.2.1, hx.2.2.2.2.2⟩ h0 h1
  simp only [e0, Option.bind_some]
  rcases q0 with q0 | ⟨a0, b0, s0⟩
  · exact ⟨-1, by simp only [show decide (r0 < 0) = true from by simp; omega, cond_true], .inl (by omega)⟩
  simp only [show decide (r0 < 0) = false from by simp; omega, cond_false]
  have s0 : r0 + ((z_Op (V.agg [(V.int .i64 (gi x 2)), (V.inl t_byte (gl x 3)), (V.inl t_byte (gl x 4)), (V.int .i64 (gi x 5))]) : Nat) : Int) = left := s0
  simp only [z_Op, gl_c0, gl_cs] at s0
  exact ⟨r0, rfl, .inr ⟨a0, b0, by simp only [z_Cmd]; omega⟩⟩
theorem laws_szItem_ok (x : V) (left : Int) (hx : W_Item x) (h0 : 0 ≤ left) (h1 : left ≤ 1048576) : ∃ r, laws_szItem x left = r ∧ (r < 0 ∨ (0 ≤ r ∧ r ≤ 1048576 ∧ r + ((z_Item x : Nat) : Int) = left)) := by
  unfold laws_szItem
  obtain ⟨r0, e0, q0⟩ := laws_szCmd_ok (V.agg [(V.int .i64 (gi x 1)), (V.int .i64 (gi x 2)), (V.int .i64 (gi x 3)), (V.inl t_byte (gl x 4)), (V.inl t_byte (gl x 5)), (V.int .i64 (gi x 6))]) left ⟨hx.2.1, hx.2.2.1, hx.2.2.2.1, hx.2.2.2.2.1, hx.2.2.2.2.2.1, hx.2.2.2.2.2.2⟩ h0 h1
  simp only [e0, Option.bind_some]
  rcases q0 with q0 | ⟨a0, b0, s0⟩
  · exact ⟨-1, by simp only [show decide (r0 < 0) = true from by simp; omega, cond_true], .inl (by omega)⟩
  simp only [show decide (r0 < 0) = false from by simp; omega, cond_false]
  have s0 : r0 + ((z_Cmd (V.agg [(V.int .i64 (gi x 1)), (V.int .i64 (gi x 2)), (V.int .i64 (gi x 3)), (V.inl t_byte (gl x 4)), (V.inl t_byte (gl x 5)), (V.int .i64 (gi x 6))]) : Nat) : Int) = left := s0
  simp only [z_Cmd, gl_c0, gl_cs] at s0
  exact ⟨r0, rfl, .inr ⟨a0, b0, by simp only [z_Item]; omega⟩⟩
theorem laws_szItemS_ok (a : List V) (left : Int) (ha : LW W_Item a) (h0 : 0 ≤ left) (h1 : left ≤ 1048576) : ∃ r, laws_szItemS a left = some (r) ∧ (r < 0 ∨ (0 ≤ r ∧ r ≤ 1048576 ∧ r + ((zS z_Item a : Nat) : Int) = left)) := by
  have hl := ha.1
  unfold laws_szItemS
  rw [wr64' (by omega) (by omega)]
  by_cases h : left - ((a.length : Nat) : Int) < 0
  · exact ⟨-1, by simp [h], .inl (by omega)⟩
  rw [show decide (left - ((a.length : Nat) : Int) < 0) = false from by simp; omega, cond_false, fuel_eq]
  have key : (fun q : Option (Nat × Int × Int) => ∃ p, q = some p ∧ ((p.1 = 0 ∧ p.2.2 = -1) ∨ (p.1 = 1 ∧ 0 ≤ p.2.1 ∧ p.2.1 ≤ 1048576 ∧ p.2.1 + ((sumL z_Item a : Nat) : Int) = left - ((a.length : Nat) : Int)))) (laws_szItemS_l5 (a.length + 1) a (left - ((a.length : Nat) : Int)) 0) := by
    refine loop_run0 (F := fun m s i => laws_szItemS_l5 m a s i) (fun i s => 0 ≤ s ∧ s ≤ 1048576 ∧ s + ((sumL z_Item (a.take i) : Nat) : Int) = left - ((a.length : Nat) : Int)) (fun q : Option (Nat × Int × Int) => ∃ p, q = some p ∧ ((p.1 = 0 ∧ p.2.2 = -1) ∨ (p.1 = 1 ∧ 0 ≤ p.2.1 ∧ p.2.1 ≤ 1048576 ∧ p.2.1 + ((sumL z_Item a : Nat) : Int) = left - ((a.length : Nat) : Int)))) ?_ ?_ (s := left - ((a.length : Nat) : Int)) ⟨by omega, by omega, by simp [sumL]⟩
    · intro m i s hi hI
      obtain ⟨r, e, hr⟩ := laws_szItem_ok (n_laws_Item (rd a i)) s (ha.rd hi) hI.1 hI.2.1
      simp only [laws_szItemS_l5, lt_nat hi, idxOk_nat hi, Int.toNat_natCast, cond_true, e, Option.bind_some, wr_succ hi hl]
      rcases hr with hr | ⟨r1, r2, r3⟩
      · exact .inr ⟨_, by rw [show decide (r < 0) = true from by simp [hr], cond_true], .inl ⟨rfl, rfl⟩⟩
      · refine .inl ⟨r, by rw [show decide (r < 0) = false from by simp; omega, cond_false], r1, r2, ?_⟩
        rw [sum_take_succ _ hi]
        have r3 : r + ((z_Item (rd a i) : Nat) : Int) = s := r3
        omega
    · intro m s hI
      refine ⟨(1, s, 0), by simp only [laws_szItemS_l5, lt_self, cond_false], .inr ⟨rfl, hI.1, hI.2.1, ?_⟩⟩
      rw [List.take_length] at hI; exact hI.2.2
  obtain ⟨p, e, hp⟩ := key
  rw [e, Option.bind_some]
  rcases hp with ⟨p1, p2⟩ | ⟨p1, p2, p3, p4⟩
  · exact ⟨_, by rw [p1]; rfl, .inl (by omega)⟩
  · exact ⟨p.2.1, by rw [p1]; rfl, .inr ⟨p2, p3, by simp only [zS]; omega⟩⟩
theorem laws_szBoolS_ok (a : List V) (left : Int) (ha : LW W_bool a) (h0 : 0 ≤ left) (h1 : left ≤ 1048576) : ∃ r, laws_szBoolS a left = r ∧ (r < 0 ∨ (0 ≤ r ∧ r ≤ 1048576 ∧ r + ((zS z0 a : Nat) : Int) = left)) := by
  have hl := ha.1
  unfold laws_szBoolS
  rw [wr64' (by omega) (by omega)]
  by_cases h : left - ((a.length : Nat) : Int) < 0
  · exact ⟨-1, by simp [h], .inl (by omega)⟩
  · exact ⟨left - ((a.length : Nat) : Int), by simp [h], .inr ⟨by omega, by omega, by rw [zS_z0]; omega⟩⟩
theorem laws_szIntS_ok (a : List V) (left : Int) (ha : LW W_int a) (h0 : 0 ≤ left) (h1 : left ≤ 1048576) : ∃ r, laws_szIntS a left = r ∧ (r < 0 ∨ (0 ≤ r ∧ r ≤ 1048576 ∧ r + ((zS z0 a : Nat) : Int) = left)) := by
  have hl := ha.1
  unfold laws_szIntS
  rw [wr64' (by omega) (by omega)]
  by_cases h : left - ((a.length : Nat) : Int) < 0
  · exact ⟨-1, by simp [h], .inl (by omega)⟩
  · exact ⟨left - ((a.length : Nat) : Int), by simp [h], .inr ⟨by omega, by omega, by rw [zS_z0]; omega⟩⟩
theorem laws_szNode_ok (x : V) (left : Int) (hx : W_Node x) (h0 : 0 ≤ left) (h1 : left ≤ 1048576) : ∃ r, laws_szNode x left = some (r) ∧ (r < 0 ∨ (0 ≤ r ∧ r ≤ 1048576 ∧ r + ((z_Node x : Nat) : Int) = left)) := by
  unfold laws_szNode
  obtain ⟨r0, e0, q0⟩ := laws_szItemS_ok (gl x 3) left hx.2.2.2.1 h0 h1
  simp only [e0, Option.bind_some]
  rcases q0 with q0 | ⟨a0, b0, s0⟩
  · exact ⟨-1, by simp only [show decide (r0 < 0) = true from by simp; omega, cond_true], .inl (by omega)⟩
  simp only [show decide (r0 < 0) = false from by simp; omega, cond_false]
  obtain ⟨r1, e1, q1⟩ := laws_szBoolS_ok (gl x 8) r0 hx.2.2.2.2.2.2.2.2.1 a0 b0
  simp only [e1, Option.bind_some]
  rcases q1 with q1 | ⟨a1, b1, s1⟩
  · exact ⟨-1, by simp only [show decide (r1 < 0) = true from by simp; omega, cond_true], .inl (by omega)⟩
  simp only [show decide (r1 < 0) = false from by simp; omega, cond_false]
  obtain ⟨r2, e2, q2⟩ := laws_szIntS_ok (gl x 9) r1 hx.2.2.2.2.2.2.2.2.2.1 a1 b1
  simp only [e2, Option.bind_some]
  rcases q2 with q2 | ⟨a2, b2, s2⟩
  · exact ⟨-1, by simp only [show decide (r2 < 0) = true from by simp; omega, cond_true], .inl (by omega)⟩
  simp only [show decide (r2 < 0) = false from by simp; omega, cond_false]
  obtain ⟨r3, e3, q3⟩ := laws_szIntS_ok (gl x 10) r2 hx.2.2.2.2.2.2.2.2.2.2 a2 b2
  simp only [e3, Option.bind_some]
  rcases q3 with q3 | ⟨a3, b3, s3⟩
  · exact ⟨-1, by simp only [show decide (r3 < 0) = true from by simp; omega, cond_true], .inl (by omega)⟩
  simp only [show decide (r3 < 0) = false from by simp; omega, cond_false]
  exact ⟨r3, rfl, .inr ⟨a3, b3, by simp only [z_Node]; omega⟩⟩
theorem laws_szMsg_ok (x : V) (left : Int) (hx : W_Msg x) (h0 : 0 ≤ left) (h1 : left ≤ 1048576) : ∃ r, laws_szMsg x left = some (r) ∧ (r < 0 ∨ (0 ≤ r ∧ r ≤ 1048576 ∧ r + ((z_Msg x : Nat) : Int) = left)) := by
  unfold laws_szMsg
  obtain ⟨r0, e0, q0⟩ := laws_szItemS_ok (gl x 6) left hx.2.2.2.2.2.2.1 h0 h1
  simp only [e0, Option.bind_some]
  rcases q0 with q0 | ⟨a0, b0, s0⟩
  · exact ⟨-1, by simp only [show decide (r0 < 0) = true from by simp; omega, cond_true], .inl (by omega)⟩
  simp only [show decide (r0 < 0) = false from by simp; omega, cond_false]
  exact ⟨r0, rfl, .inr ⟨a0, b0, by simp only [z_Msg]; omega⟩⟩
theorem laws_toByteS_ok (a : List V) (ha : LW W_byte a) (hz : zS z0 a ≤ 1048576) : laws_toByteS a = some (a.map cnv_byte) := by
  have hl := ha.1
  have hn : a.length ≤ 1048576 := by simp only [zS] at hz; omega
  unfold laws_toByteS
  rw [fuel_eq, show (((a.length : Nat) : Int)).toNat = a.length from by omega, roomy_of (n := a.length) (by omega) hl]
  simp only [Int.natCast_nonneg, decide_true, Bool.and_self, cond_true]
  rw [to_loop (F := fun m r i => laws_toByteS_l3 m a i r) (f := cnv_byte) ?_ ?_ (by simp)]
  · rfl
  · intro m i r hi hr
    have hr' : i < r.length := by omega
    simp only [laws_toByteS_l3, lt_nat hi, idxOk_nat hi, idxOk_nat hr', Int.toNat_natCast, Nat.zero_add, cond_true, Option.bind_some, wr_succ hi hl]
    rfl
  · intro m r
    simp only [laws_toByteS_l3, lt_self, cond_false]
theorem laws_toOp_ok (x : V) (hx : W_Op x) (hz : z_Op x ≤ 1048576) : laws_toOp x = some (cnv_Op x) := by
  simp only [z_Op] at hz
  unfold laws_toOp
  rw [laws_toByteS_ok (gl x 1) hx.2.1 (by omega)]
  simp only [Option.bind_some]
  rw [laws_toByteS_ok (gl x 2) hx.2.2.1 (by omega)]
  simp only [Option.bind_some]
  rfl
theorem laws_toCmd_ok (x : V) (hx : W_Cmd x) (hz : z_Cmd x ≤ 1048576) : laws_toCmd x = some (cnv_Cmd x) := by
  simp only [z_Cmd] at hz
  unfold laws_toCmd
  rw [laws_toOp_ok (V.agg [(V.int .i64 (gi x 2)), (V.inl t_byte (gl x 3)), (V.inl t_byte (gl x 4)), (V.int .i64 (gi x 5))]) ⟨hx.2.2.1, hx.2.2.2.1, hx.2.2.2.2.1, hx.2.2.2.2.2⟩ (by simp only [z_Op, gl_c0, gl_cs]; omega)]
  simp only [Option.bind_some]
  rfl
theorem laws_toItem_ok (x : V) (hx : W_Item x) (hz : z_Item x ≤ 1048576) : laws_toItem x = some (cnv_Item x) := by
  simp only [z_Item] at hz
  unfold laws_toItem
  rw [laws_toCmd_ok (V.agg [(V.int .i64 (gi x 1)), (V.int .i64 (gi x 2)), (V.int .i64 (gi x 3)), (V.inl t_byte (gl x 4)), (V.inl t_byte (gl x 5)), (V.int .i64 (gi x 6))]) ⟨hx.2.1, hx.2.2.1, hx.2.2.2.1, hx.2.2.2.2.1, hx.2.2.2.2.2.1, hx.2.2.2.2.2.2⟩ (by simp only [z_Cmd, gl_c0, gl_cs]; omega)]
  simp only [Option.bind_some]
  rfl
theorem laws_toItemS_ok (a : List V) (ha : LW W_Item a) (hz : zS z_Item a ≤ 1048576) : laws_toItemS a = some (a.map cnv_Item) := by
  have hl := ha.1
  have hn : a.length ≤ 1048576 := by simp only [zS] at hz; omega
  unfold laws_toItemS
  rw [fuel_eq, show (((a.length : Nat) : Int)).toNat = a.length from by omega, roomy_of (n := a.length) (by omega) hl]
  simp only [Int.natCast_nonneg, decide_true, Bool.and_self, cond_true]
  have hz' : ∀ i, i < a.length → z_Item (rd a i) ≤ 1048576 := fun i hi => by
    have := sum_take_succ z_Item hi
    have := sumL_take_le z_Item a (i + 1)
    simp only [zS] at hz; omega
  rw [to_loop (F := fun m r i => laws_toItemS_l3 m a i r) (f := cnv_Item) ?_ ?_ (by simp)]
  · rfl
  · intro m i r hi hr
    have hr' : i < r.length := by omega
    have e := laws_toItem_ok (n_laws_Item (rd a i)) (ha.rd hi) (hz' i hi)
    simp only [laws_toItemS_l3, lt_nat hi, idxOk_nat hi, idxOk_nat hr', Int.toNat_natCast, Nat.zero_add, cond_true, e, Option.bind_some, wr_succ hi hl]
    rfl
  · intro m r
    simp only [laws_toItemS_l3, lt_self, cond_false]
theorem laws_toBoolS_ok (a : List V) (ha : LW W_bool a) (hz : zS z0 a ≤ 1048576) : laws_toBoolS a = some (a.map cnv_bool) := by
  have hl := ha.1
  have hn : a.length ≤ 1048576 := by simp only [zS] at hz; omega
  unfold laws_toBoolS
  rw [fuel_eq, show (((a.length : Nat) : Int)).toNat = a.length from by omega, roomy_of (n := a.length) (by omega) hl]
  simp only [Int.natCast_nonneg, decide_true, Bool.and_self, cond_true]
  rw [to_loop (F := fun m r i => laws_toBoolS_l3 m a i r) (f := cnv_bool) ?_ ?_ (by simp)]
  · rfl
  · intro m i r hi hr
    have hr' : i < r.length := by omega
    simp only [laws_toBoolS_l3, lt_nat hi, idxOk_nat hi, idxOk_nat hr', Int.toNat_natCast, Nat.zero_add, cond_true, Option.bind_some, wr_succ hi hl]
    rfl
  · intro m r
    simp only [laws_toBoolS_l3, lt_self, cond_false]
theorem laws_toIntS_ok (a : List V) (ha : LW W_int a) (hz : zS z0 a ≤ 1048576) : laws_toIntS a = some (a.map cnv_int) := by
  have hl := ha.1
  have hn : a.length ≤ 1048576 := by simp only [zS] at hz; omega
  unfold laws_toIntS
  rw [fuel_eq, show (((a.length : Nat) : Int)).toNat = a.length from by omega, roomy_of (n := a.length) (by omega) hl]
  simp only [Int.natCast_nonneg, decide_true, Bool.and_self, cond_true]
  rw [to_loop (F := fun m r i => laws_toIntS_l3 m a i r) (f := cnv_int) ?_ ?_ (by simp)]
  · rfl
  · intro m i r hi hr
    have hr' : i < r.length := by omega
    simp only [laws_toIntS_l3, lt_nat hi, idxOk_nat hi, idxOk_nat hr', Int.toNat_natCast, Nat.zero_add, cond_true, Option.bind_some, wr_succ hi hl]
    rfl
  · intro m r
    simp only [laws_toIntS_l3, lt_self, cond_false]
theorem laws_toNode_ok (x : V) (hx : W_Node x) (hz : z_Node x ≤ 1048576) : laws_toNode x = some (cnv_Node x) := by
  simp only [z_Node] at hz
  unfold laws_toNode
  rw [laws_toItemS_ok (gl x 3) hx.2.2.2.1 (by omega)]
  simp only [Option.bind_some]
  rw [laws_toBoolS_ok (gl x 8) hx.2.2.2.2.2.2.2.2.1 (by omega)]
  simp only [Option.bind_some]
  rw [laws_toIntS_ok (gl x 9) hx.2.2.2.2.2.2.2.2.2.1 (by omega)]
  simp only [Option.bind_some]
  rw [laws_toIntS_ok (gl x 10) hx.2.2.2.2.2.2.2.2.2.2 (by omega)]
  simp only [Option.bind_some]
  rfl
theorem laws_toMsg_ok (x : V) (hx : W_Msg x) (hz : z_Msg x ≤ 1048576) : laws_toMsg x = some (cnv_Msg x) := by
  simp only [z_Msg] at hz
  unfold laws_toMsg
  rw [laws_toItemS_ok (gl x 6) hx.2.2.2.2.2.2.1 (by omega)]
  simp only [Option.bind_some]
  rfl
theorem laws_eqByteS_ok (a : List V) (ha : LW W_byte a) : laws_eqByteS a a = some (true) := by
  have hl := ha.1
  unfold laws_eqByteS
  simp only [decide_true, Bool.not_true, cond_false]
  rw [fuel_eq]
  rw [skip_loop (F := fun m i => laws_eqByteS_l4 m a a i) (n := a.length) (out := some (1, false)) ?_ ?_]
  · rfl
  · intro m i hi
    simp only [laws_eqByteS_l4, lt_nat hi, idxOk_nat hi, Int.toNat_natCast, cond_true, Option.bind_some, wr_succ hi hl, decide_true, beq_self_eq_true, Bool.not_true, cond_false]
  · intro m
    simp only [laws_eqByteS_l4, lt_self, cond_false]
theorem laws_eqOp_ok (x : V) (hx : W_Op x) : laws_eqOp x x = some (true) := by
  unfold laws_eqOp
  simp only [decide_true, beq_self_eq_true, Bool.not_true, cond_false, cond_true, Option.bind_some, laws_eqByteS_ok (gl x 1) hx.2.1, laws_eqByteS_ok (gl x 2) hx.2.2.1]
theorem laws_eqCmd_ok (x : V) (hx : W_Cmd x) : laws_eqCmd x x = some (true) := by
  unfold laws_eqCmd
  simp only [decide_true, beq_self_eq_true, Bool.not_true, cond_false, cond_true, Option.bind_some, laws_eqOp_ok (V.agg [(V.int .i64 (gi x 2)), (V.inl t_byte (gl x 3)), (V.inl t_byte (gl x 4)), (V.int .i64 (gi x 5))]) ⟨hx.2.2.1, hx.2.2.2.1, hx.2.2.2.2.1, hx.2.2.2.2.2⟩]
theorem laws_eqItem_ok (x : V) (hx : W_Item x) : laws_eqItem x x = some (true) := by
  unfold laws_eqItem
  simp only [decide_true, beq_self_eq_true, Bool.not_true, cond_false, cond_true, Option.bind_some, laws_eqCmd_ok (V.agg [(V.int .i64 (gi x 1)), (V.int .i64 (gi x 2)), (V.int .i64 (gi x 3)), (V.inl t_byte (gl x 4)), (V.inl t_byte (gl x 5)), (V.int .i64 (gi x 6))]) ⟨hx.2.1, hx.2.2.1, hx.2.2.2.1, hx.2.2.2.2.1, hx.2.2.2.2.2.1, hx.2.2.2.2.2.2⟩]
theorem laws_eqItemS_ok (a : List V) (ha : LW W_Item a) : laws_eqItemS a a = some (true) := by
  have hl := ha.1
  unfold laws_eqItemS
  simp only [decide_true, Bool.not_true, cond_false]
  rw [fuel_eq]
  rw [skip_loop (F := fun m i => laws_eqItemS_l4 m a a i) (n := a.length) (out := some (1, false)) ?_ ?_]
  · rfl
  · intro m i hi
    have e := laws_eqItem_ok (n_laws_Item (rd a i)) (ha.rd hi)
    simp only [laws_eqItemS_l4, lt_nat hi, idxOk_nat hi, Int.toNat_natCast, cond_true, e, Option.bind_some, wr_succ hi hl, decide_true, beq_self_eq_true, Bool.not_true, cond_false]
  · intro m
    simp only [laws_eqItemS_l4, lt_self, cond_false]
theorem laws_eqBoolS_ok (a : List V) (ha : LW W_bool a) : laws_eqBoolS a a = some (true) := by
  have hl := ha.1
  unfold laws_eqBoolS
  simp only [decide_true, Bool.not_true, cond_false]
  rw [fuel_eq]
  rw [skip_loop (F := fun m i => laws_eqBoolS_l4 m a a i) (n := a.length) (out := some (1, false)) ?_ ?_]
  · rfl
  · intro m i hi
    simp only [laws_eqBoolS_l4, lt_nat hi, idxOk_nat hi, Int.toNat_natCast, cond_true, Option.bind_some, wr_succ hi hl, decide_true, beq_self_eq_true, Bool.not_true, cond_false]
  · intro m
    simp only [laws_eqBoolS_l4, lt_self, cond_false]
theorem laws_eqIntS_ok (a : List V) (ha : LW W_int a) : laws_eqIntS a a = some (true) := by
  have hl := ha.1
  unfold laws_eqIntS
  simp only [decide_true, Bool.not_true, cond_false]
  rw [fuel_eq]
  rw [skip_loop (F := fun m i => laws_eqIntS_l4 m a a i) (n := a.length) (out := some (1, false)) ?_ ?_]
  · rfl
  · intro m i hi
    simp only [laws_eqIntS_l4, lt_nat hi, idxOk_nat hi, Int.toNat_natCast, cond_true, Option.bind_some, wr_succ hi hl, decide_true, beq_self_eq_true, Bool.not_true, cond_false]
  · intro m
    simp only [laws_eqIntS_l4, lt_self, cond_false]
theorem laws_eqNode_ok (x : V) (hx : W_Node x) : laws_eqNode x x = some (true) := by
  unfold laws_eqNode
  simp only [decide_true, beq_self_eq_true, Bool.not_true, cond_false, cond_true, Option.bind_some, laws_eqItemS_ok (gl x 3) hx.2.2.2.1, laws_eqBoolS_ok (gl x 8) hx.2.2.2.2.2.2.2.2.1, laws_eqIntS_ok (gl x 9) hx.2.2.2.2.2.2.2.2.2.1, laws_eqIntS_ok (gl x 10) hx.2.2.2.2.2.2.2.2.2.2]
theorem laws_eqMsg_ok (x : V) (hx : W_Msg x) : laws_eqMsg x x = some (true) := by
  unfold laws_eqMsg
  simp only [decide_true, beq_self_eq_true, Bool.not_true, cond_false, cond_true, Option.bind_some, laws_eqItemS_ok (gl x 6) hx.2.2.2.2.2.2.1]
theorem laws_eqMsgS_ok (a : List V) (ha : LW W_Msg a) : laws_eqMsgS a a = some (true) := by
  have hl := ha.1
  unfold laws_eqMsgS
  simp only [decide_true, Bool.not_true, cond_false]
  rw [fuel_eq]
  rw [skip_loop (F := fun m i => laws_eqMsgS_l4 m a a i) (n := a.length) (out := some (1, false)) ?_ ?_]
  · rfl
  · intro m i hi
    have e := laws_eqMsg_ok (n_impl_Msg (rd a i)) (ha.rd hi)
    simp only [laws_eqMsgS_l4, lt_nat hi, idxOk_nat hi, Int.toNat_natCast, cond_true, e, Option.bind_some, wr_succ hi hl, decide_true, beq_self_eq_true, Bool.not_true, cond_false]
  · intro m
    simp only [laws_eqMsgS_l4, lt_self, cond_false]
theorem laws_markByteS_ok (a : List V) (k : Int) (ha : LW W_byte a) (hk : 0 ≤ k) (hs : k + ((sumL c1 a : Nat) : Int) ≤ 9223372036854775807) : ∃ b, laws_markByteS a k = some (k + ((sumL c1 a : Nat) : Int), b) ∧ MS c1 M_byte b k ∧ sumL c1 b = sumL c1 a := by
  have hl := ha.1
  unfold laws_markByteS
  rw [fuel_eq]
  obtain ⟨b, e1, e2, e3, e4⟩ := mark_loop (F := fun m k i r => laws_markByteS_l2 m k i r) (c := c1) (M := M_byte) (w := W_byte) (by
    intro x k hx hk hs
    simp only [c1] at hs
    refine ⟨V.int .u8 (IntKind.u8.wrap k), rfl, rfl, fun m pre rest hlen => ?_⟩
    have hi : pre.length < (pre ++ x :: rest).length := by simp
    simp only [laws_markByteS_l2, lt_mid, idxOk_mid, Int.toNat_natCast, Nat.zero_add, set_mid, cond_true, wr_succ hi hlen]
    rw [wr64' (by omega) (by omega)]
    rfl)
    (by intro m k pre; simp only [laws_markByteS_l2, lt_self, cond_false]) a (a.length + 1) k [] (by omega) (by simpa using hl) ha.2 hk hs
  simp only [List.nil_append, List.length_nil, Int.natCast_zero] at e4
  rw [e4]
  exact ⟨b, rfl, ⟨by omega, e3⟩, e2⟩
theorem laws_markItemS_ok (a : List V) (k : Int) (ha : LW W_Item a) (hk : 0 ≤ k) (hs : k + ((sumL c_Item a : Nat) : Int) ≤ 9223372036854775807) : ∃ b, laws_markItemS a k = some (k + ((sumL c_Item a : Nat) : Int), b) ∧ MS c_Item M_Item b k ∧ sumL c_Item b = sumL c_Item a := by
  have hl := ha.1
  unfold laws_markItemS
  rw [fuel_eq]
  obtain ⟨b, e1, e2, e3, e4⟩ := mark_loop (F := fun m k i r => laws_markItemS_l2 m k i r) (c := c_Item) (M := M_Item) (w := W_Item) (by
    intro x k hx hk hs
    simp only [c_Item] at hs
    obtain ⟨b0, f0, g0, s0⟩ := laws_markByteS_ok (gl x 4) (k + 1 + 1 + 1 + 1) (hx.2.2.2.2.1) (by omega) (by omega)
    obtain ⟨b1, f1, g1, s1⟩ := laws_markByteS_ok (gl x 5) (k + 1 + 1 + 1 + 1 + ((sumL c1 (gl x 4) : Nat) : Int)) (hx.2.2.2.2.2.1) (by omega) (by omega)
    refine ⟨V.agg [V.int .i64 (k), V.int .i64 (k + 1), V.int .i64 (k + 1 + 1), V.int .i64 (k + 1 + 1 + 1), V.inl t_byte b0, V.inl t_byte b1, V.int .i64 (k + 1 + 1 + 1 + 1 + ((sumL c1 (gl x 4) : Nat) : Int) + ((sumL c1 (gl x 5) : Nat) : Int))], ?_, ?_, fun m pre rest hlen => ?_⟩
    · simp only [M_Item, gl_c0, gl_cs, gi_c0, gi_cs, gb_c0, gb_cs, and_true, true_and, s0, s1]
      exact ⟨g0, g1⟩
    · simp only [c_Item, gl_c0, gl_cs, s0, s1]
    · have hi : pre.length < (pre ++ x :: rest).length := by simp
      simp (disch := omega) only [laws_markItemS_l2, rlet, lt_mid, idxOk_mid, Int.toNat_natCast, Nat.zero_add, set_mid, rd_mid, gi_c0, gi_cs, gl_c0, gl_cs, gb_c0, gb_cs, cond_true, wr_succ hi hlen, wr64', Option.bind_some, f0, f1]
      congr 1
      simp only [c_Item]; omega)
    (by intro m k pre; simp only [laws_markItemS_l2, lt_self, cond_false]) a (a.length + 1) k [] (by omega) (by simpa using hl) ha.2 hk hs
  simp only [List.nil_append, List.length_nil, Int.natCast_zero] at e4
  rw [e4]
  exact ⟨b, rfl, ⟨by omega, e3⟩, e2⟩
theorem laws_markBoolS_ok (a : List V) (k : Int) (ha : LW W_bool a) (hk : 0 ≤ k) (hs : k + ((sumL c1 a : Nat) : Int) ≤ 9223372036854775807) : ∃ b, laws_markBoolS a k = some (k + ((sumL c1 a : Nat) : Int), b) ∧ MS c1 M_bool b k ∧ sumL c1 b = sumL c1 a := by
  have hl := ha.1
  unfold laws_markBoolS
  rw [fuel_eq]
  obtain ⟨b, e1, e2, e3, e4⟩ := mark_loop (F := fun m k i r => laws_markBoolS_l2 m k i r) (c := c1) (M := M_bool) (w := W_bool) (by
    intro x k hx hk hs
    simp only [c1] at hs
    refine ⟨V.bool (decide (k.tmod 3 = 0)), rfl, rfl, fun m pre rest hlen => ?_⟩
    have hi : pre.length < (pre ++ x :: rest).length := by simp
    simp only [laws_markBoolS_l2, lt_mid, idxOk_mid, Int.toNat_natCast, Nat.zero_add, set_mid, cond_true, wr_succ hi hlen]
    rw [wr64' (by omega) (by omega)]
    rfl)
    (by intro m k pre; simp only [laws_markBoolS_l2, lt_self, cond_false]) a (a.length + 1) k [] (by omega) (by simpa using hl) ha.2 hk hs
  simp only [List.nil_append, List.length_nil, Int.natCast_zero] at e4
  rw [e4]
  exact ⟨b, rfl, ⟨by omega, e3⟩, e2⟩
theorem laws_markIntS_ok (a : List V) (k : Int) (ha : LW W_int a) (hk : 0 ≤ k) (hs : k + ((sumL c1 a : Nat) : Int) ≤ 9223372036854775807) : ∃ b, laws_markIntS a k = some (k + ((sumL c1 a : Nat) : Int), b) ∧ MS c1 M_int b k ∧ sumL c1 b = sumL c1 a := by
  have hl := ha.1
  unfold laws_markIntS
  rw [fuel_eq]
  obtain ⟨b, e1, e2, e3, e4⟩ := mark_loop (F := fun m k i r => laws_markIntS_l2 m k i r) (c := c1) (M := M_int) (w := W_int) (by
    intro x k hx hk hs
    simp only [c1] at hs
    refine ⟨V.int .i64 k, rfl, rfl, fun m pre rest hlen => ?_⟩
    have hi : pre.length < (pre ++ x :: rest).length := by simp
    simp only [laws_markIntS_l2, lt_mid, idxOk_mid, Int.toNat_natCast, Nat.zero_add, set_mid, cond_true, wr_succ hi hlen]
    rw [wr64' (by omega) (by omega)]
    rfl)
    (by intro m k pre; simp only [laws_markIntS_l2, lt_self, cond_false]) a (a.length + 1) k [] (by omega) (by simpa using hl) ha.2 hk hs
  simp only [List.nil_append, List.length_nil, Int.natCast_zero] at e4
  rw [e4]
  exact ⟨b, rfl, ⟨by omega, e3⟩, e2⟩
theorem laws_markNode_ok (x : V) (k : Int) (hx : W_Node x) (hk : 0 ≤ k) (hs : k + ((ct_Node x : Nat) : Int) ≤ 9223372036854775807) : ∃ b0 b1 b2 b3, laws_markNode x k = some (k + ((ct_Node x : Nat) : Int), b0, b1, b2, b3) ∧ MS c_Item M_Item b0 (k) ∧ sumL c_Item b0 = sumL c_Item (gl x 3) ∧ MS c1 M_bool b1 (k + ((sumL c_Item (gl x 3) : Nat) : Int)) ∧ sumL c1 b1 = sumL c1 (gl x 8) ∧ MS c1 M_int b2 (k + ((sumL c_Item (gl x 3) : Nat) : Int) + ((sumL c1 (gl x 8) : Nat) : Int)) ∧ sumL c1 b2 = sumL c1 (gl x 9) ∧ MS c1 M_int b3 (k + ((sumL c_Item (gl x 3) : Nat) : Int) + ((sumL c1 (gl x 8) : Nat) : Int) + ((sumL c1 (gl x 9) : Nat) : Int)) ∧ sumL c1 b3 = sumL c1 (gl x 10) := by
  simp only [ct_Node] at hs ⊢
  unfold laws_markNode
  obtain ⟨b0, f0, g0, s0⟩ := laws_markItemS_ok (gl x 3) (k) hx.2.2.2.1 (by omega) (by omega)
  simp only [f0, Option.bind_some]
  obtain ⟨b1, f1, g1, s1⟩ := laws_markBoolS_ok (gl x 8) (k + ((sumL c_Item (gl x 3) : Nat) : Int)) hx.2.2.2.2.2.2.2.2.1 (by omega) (by omega)
  simp only [f1, Option.bind_some]
  obtain ⟨b2, f2, g2, s2⟩ := laws_markIntS_ok (gl x 9) (k + ((sumL c_Item (gl x 3) : Nat) : Int) + ((sumL c1 (gl x 8) : Nat) : Int)) hx.2.2.2.2.2.2.2.2.2.1 (by omega) (by omega)
  simp only [f2, Option.bind_some]
  obtain ⟨b3, f3, g3, s3⟩ := laws_markIntS_ok (gl x 10) (k + ((sumL c_Item (gl x 3) : Nat) : Int) + ((sumL c1 (gl x 8) : Nat) : Int) + ((sumL c1 (gl x 9) : Nat) : Int)) hx.2.2.2.2.2.2.2.2.2.2 (by omega) (by omega)
  simp only [f3, Option.bind_some]
  refine ⟨b0, b1, b2, b3, ?_, ?_, s0, ?_, s1, ?_, s2, ?_, s3⟩
  · first | rfl | (congr 2; omega)
  · first | exact g0 | (refine cast (congrArg _ ?_) g0; omega)
  · first | exact g1 | (refine cast (congrArg _ ?_) g1; omega)
  · first | exact g2 | (refine cast (congrArg _ ?_) g2; omega)
  · first | exact g3 | (refine cast (congrArg _ ?_) g3; omega)
theorem laws_markMsg_ok (x : V) (k : Int) (hx : W_Msg x) (hk : 0 ≤ k) (hs : k + ((ct_Msg x : Nat) : Int) ≤ 9223372036854775807) : ∃ b0, laws_markMsg x k = some (k + ((ct_Msg x : Nat) : Int), b0) ∧ MS c_Item M_Item b0 (k) ∧ sumL c_Item b0 = sumL c_Item (gl x 6) := by
  simp only [ct_Msg] at hs ⊢
  unfold laws_markMsg
  obtain ⟨b0, f0, g0, s0⟩ := laws_markItemS_ok (gl x 6) (k) hx.2.2.2.2.2.2.1 (by omega) (by omega)
  simp only [f0, Option.bind_some]
  refine ⟨b0, ?_, ?_, s0⟩
  · first | rfl | (congr 2; omega)
  · first | exact g0 | (refine cast (congrArg _ ?_) g0; omega)
theorem laws_markMsgS_ok (a : List V) (k : Int) (ha : LW W_Msg a) (hk : 0 ≤ k) (hs : k + ((sumL c_Msg a : Nat) : Int) ≤ 9223372036854775807) : ∃ b, laws_markMsgS a k = some (k + ((sumL c_Msg a : Nat) : Int), b) ∧ MS c_Msg M_Msg b k ∧ sumL c_Msg b = sumL c_Msg a := by
  have hl := ha.1
  unfold laws_markMsgS
  rw [fuel_eq]
  obtain ⟨b, e1, e2, e3, e4⟩ := mark_loop (F := fun m k i r => laws_markMsgS_l2 m k i r) (c := c_Msg) (M := M_Msg) (w := W_Msg) (by
    intro x k hx hk hs
    simp only [c_Msg] at hs
    obtain ⟨b0, f0, g0, s0⟩ := laws_markItemS_ok (gl x 6) (k + 1 + 1 + 1 + 1 + 1 + 1) (hx.2.2.2.2.2.2.1) (by omega) (by omega)
    refine ⟨V.agg [V.int .i64 (k), V.int .i64 (k + 1), V.int .i64 (k + 1 + 1), V.int .i64 (k + 1 + 1 + 1), V.int .i64 (k + 1 + 1 + 1 + 1), V.int .i64 (k + 1 + 1 + 1 + 1 + 1), V.inl t_impl_Item b0, V.int .i64 (k + 1 + 1 + 1 + 1 + 1 + 1 + ((sumL c_Item (gl x 6) : Nat) : Int)), V.bool (decide ((k + 1 + 1 + 1 + 1 + 1 + 1 + ((sumL c_Item (gl x 6) : Nat) : Int) + 1).tmod 3 = 0))], ?_, ?_, fun m pre rest hlen => ?_⟩
    · simp only [M_Msg, gl_c0, gl_cs, gi_c0, gi_cs, gb_c0, gb_cs, and_true, true_and, s0]
      exact g0
    · simp only [c_Msg, gl_c0, gl_cs, s0]
    · have hi : pre.length < (pre ++ x :: rest).length := by simp
      simp (disch := omega) only [laws_markMsgS_l2, rlet, lt_mid, idxOk_mid, Int.toNat_natCast, Nat.zero_add, set_mid, rd_mid, gi_c0, gi_cs, gl_c0, gl_cs, gb_c0, gb_cs, cond_true, wr_succ hi hlen, wr64', Option.bind_some, f0]
      congr 1
      simp only [c_Msg]; omega)
    (by intro m k pre; simp only [laws_markMsgS_l2, lt_self, cond_false]) a (a.length + 1) k [] (by omega) (by simpa using hl) ha.2 hk hs
  simp only [List.nil_append, List.length_nil, Int.natCast_zero] at e4
  rw [e4]
  exact ⟨b, rfl, ⟨by omega, e3⟩, e2⟩
theorem laws_heldByteS_ok (a : List V) (k : Int) (hM : MS c1 M_byte a k) (hk : 0 ≤ k) (hs : k + ((sumL c1 a : Nat) : Int) ≤ 9223372036854775807) : laws_heldByteS a k = some (k + ((sumL c1 a : Nat) : Int)) := by
  have hl := hM.1
  unfold laws_heldByteS
  rw [fuel_eq]
  rw [held_loop (F := fun m k i => laws_heldByteS_l2 m a k i) (c := c1) (M := M_byte) (l := a) (out := fun k => some (1, k, 0)) ?_ ?_ hk hs hM]
  · rfl
  · intro m k i hi hk hs hM
    simp only [c1] at hs ⊢
    simp only [M_byte] at hM
    simp only [laws_heldByteS_l2, lt_nat hi, idxOk_nat hi, Int.toNat_natCast, hM, decide_true, beq_self_eq_true, Bool.not_true, cond_true, cond_false, wr_succ hi hl]
    rw [wr64' (by omega) (by omega)]
    rfl
  · intro m k
    simp only [laws_heldByteS_l2, lt_self, cond_false]
theorem laws_heldItemS_ok (a : List V) (k : Int) (hM : MS c_Item M_Item a k) (hk : 0 ≤ k) (hs : k + ((sumL c_Item a : Nat) : Int) ≤ 9223372036854775807) : laws_heldItemS a k = some (k + ((sumL c_Item a : Nat) : Int)) := by
  have hl := hM.1
  unfold laws_heldItemS
  rw [fuel_eq]
  rw [held_loop (F := fun m k i => laws_heldItemS_l2 m a k i) (c := c_Item) (M := M_Item) (l := a) (out := fun k => some (1, k, 0)) ?_ ?_ hk hs hM]
  · rfl
  · intro m k i hi hk hs hM
    simp only [c_Item] at hs
    simp only [M_Item] at hM
    obtain ⟨q0, q1, q2, q3, q4, q5, q6⟩ := hM
    have e4 := laws_heldByteS_ok (gl (rd a i) 4) (k + 1 + 1 + 1 + 1) q4 (by omega) (by omega)
    have n4 : decide (k + 1 + 1 + 1 + 1 + ((sumL c1 (gl (rd a i) 4) : Nat) : Int) < 0) = false := by simp; omega
    have e5 := laws_heldByteS_ok (gl (rd a i) 5) (k + 1 + 1 + 1 + 1 + ((sumL c1 (gl (rd a i) 4) : Nat) : Int)) q5 (by omega) (by omega)
    have n5 : decide (k + 1 + 1 + 1 + 1 + ((sumL c1 (gl (rd a i) 4) : Nat) : Int) + ((sumL c1 (gl (rd a i) 5) : Nat) : Int) < 0) = false := by simp; omega
    simp (disch := omega) only [laws_heldItemS_l2, lt_nat hi, idxOk_nat hi, Int.toNat_natCast, wr64', q0, q1, q2, q3, e4, n4, e5, n5, q6, decide_true, beq_self_eq_true, Bool.not_true, cond_true, cond_false, Option.bind_some, wr_succ hi hl]
    congr 1
    simp only [c_Item]; omega
  · intro m k
    simp only [laws_heldItemS_l2, lt_self, cond_false]
theorem laws_heldBoolS_ok (a : List V) (k : Int) (hM : MS c1 M_bool a k) (hk : 0 ≤ k) (hs : k + ((sumL c1 a : Nat) : Int) ≤ 9223372036854775807) : laws_heldBoolS a k = some (k + ((sumL c1 a : Nat) : Int)) := by
  have hl := hM.1
  unfold laws_heldBoolS
  rw [fuel_eq]
  rw [held_loop (F := fun m k i => laws_heldBoolS_l2 m a k i) (c := c1) (M := M_bool) (l := a) (out := fun k => some (1, k, 0)) ?_ ?_ hk hs hM]
  · rfl
  · intro m k i hi hk hs hM
    simp only [c1] at hs ⊢
    simp only [M_bool] at hM
    simp only [laws_heldBoolS_l2, lt_nat hi, idxOk_nat hi, Int.toNat_natCast, hM, decide_true, beq_self_eq_true, Bool.not_true, cond_true, cond_false, wr_succ hi hl]
    rw [wr64' (by omega) (by omega)]
    rfl
  · intro m k
    simp only [laws_heldBoolS_l2, lt_self, cond_false]
theorem laws_heldIntS_ok (a : List V) (k : Int) (hM : MS c1 M_int a k) (hk : 0 ≤ k) (hs : k + ((sumL c1 a : Nat) : Int) ≤ 9223372036854775807) : laws_heldIntS a k = some (k + ((sumL c1 a : Nat) : Int)) := by
  have hl := hM.1
  unfold laws_heldIntS
  rw [fuel_eq]
  rw [held_loop (F := fun m k i => laws_heldIntS_l2 m a k i) (c := c1) (M := M_int) (l := a) (out := fun k => some (1, k, 0)) ?_ ?_ hk hs hM]
  · rfl
  · intro m k i hi hk hs hM
    simp only [c1] at hs ⊢
    simp only [M_int] at hM
    simp only [laws_heldIntS_l2, lt_nat hi, idxOk_nat hi, Int.toNat_natCast, hM, decide_true, beq_self_eq_true, Bool.not_true, cond_true, cond_false, wr_succ hi hl]
    rw [wr64' (by omega) (by omega)]
    rfl
  · intro m k
    simp only [laws_heldIntS_l2, lt_self, cond_false]
theorem laws_heldNode_ok (x : V) (k : Int) (h3 : MS c_Item M_Item (gl x 3) (k)) (h8 : MS c1 M_bool (gl x 8) (k + ((sumL c_Item (gl x 3) : Nat) : Int))) (h9 : MS c1 M_int (gl x 9) (k + ((sumL c_Item (gl x 3) : Nat) : Int) + ((sumL c1 (gl x 8) : Nat) : Int))) (h10 : MS c1 M_int (gl x 10) (k + ((sumL c_Item (gl x 3) : Nat) : Int) + ((sumL c1 (gl x 8) : Nat) : Int) + ((sumL c1 (gl x 9) : Nat) : Int))) (hk : 0 ≤ k) (hs : k + ((ct_Node x : Nat) : Int) ≤ 9223372036854775807) : laws_heldNode x k = some (k + ((ct_Node x : Nat) : Int)) := by
  simp only [ct_Node] at hs ⊢
  unfold laws_heldNode
  rw [laws_heldItemS_ok (gl x 3) (k) h3 (by omega) (by omega)]
  simp only [Option.bind_some, show decide (k + ((sumL c_Item (gl x 3) : Nat) : Int) < 0) = false from by simp; omega, cond_false]
  rw [laws_heldBoolS_ok (gl x 8) (k + ((sumL c_Item (gl x 3) : Nat) : Int)) h8 (by omega) (by omega)]
  simp only [Option.bind_some, show decide (k + ((sumL c_Item (gl x 3) : Nat) : Int) + ((sumL c1 (gl x 8) : Nat) : Int) < 0) = false from by simp; omega, cond_false]
  rw [laws_heldIntS_ok (gl x 9) (k + ((sumL c_Item (gl x 3) : Nat) : Int) + ((sumL c1 (gl x 8) : Nat) : Int)) h9 (by omega) (by omega)]
  simp only [Option.bind_some, show decide (k + ((sumL c_Item (gl x 3) : Nat) : Int) + ((sumL c1 (gl x 8) : Nat) : Int) + ((sumL c1 (gl x 9) : Nat) : Int) < 0) = false from by simp; omega, cond_false]
  rw [laws_heldIntS_ok (gl x 10) (k + ((sumL c_Item (gl x 3) : Nat) : Int) + ((sumL c1 (gl x 8) : Nat) : Int) + ((sumL c1 (gl x 9) : Nat) : Int)) h10 (by omega) (by omega)]
  simp only [Option.bind_some, show decide (k + ((sumL c_Item (gl x 3) : Nat) : Int) + ((sumL c1 (gl x 8) : Nat) : Int) + ((sumL c1 (gl x 9) : Nat) : Int) + ((sumL c1 (gl x 10) : Nat) : Int) < 0) = false from by simp; omega, cond_false]
  try first | rfl | (congr 1; omega)
theorem laws_heldMsgS_ok (a : List V) (k : Int) (hM : MS c_Msg M_Msg a k) (hk : 0 ≤ k) (hs : k + ((sumL c_Msg a : Nat) : Int) ≤ 9223372036854775807) : laws_heldMsgS a k = some (k + ((sumL c_Msg a : Nat) : Int)) := by
  have hl := hM.1
  unfold laws_heldMsgS
  rw [fuel_eq]
  rw [held_loop (F := fun m k i => laws_heldMsgS_l2 m a k i) (c := c_Msg) (M := M_Msg) (l := a) (out := fun k => some (1, k, 0)) ?_ ?_ hk hs hM]
  · rfl
  · intro m k i hi hk hs hM
    simp only [c_Msg] at hs
    simp only [M_Msg] at hM
    obtain ⟨q0, q1, q2, q3, q4, q5, q6, q7, q8⟩ := hM
    have e6 := laws_heldItemS_ok (gl (rd a i) 6) (k + 1 + 1 + 1 + 1 + 1 + 1) q6 (by omega) (by omega)
    have n6 : decide (k + 1 + 1 + 1 + 1 + 1 + 1 + ((sumL c_Item (gl (rd a i) 6) : Nat) : Int) < 0) = false := by simp; omega
    simp (disch := omega) only [laws_heldMsgS_l2, lt_nat hi, idxOk_nat hi, Int.toNat_natCast, wr64', q0, q1, q2, q3, q4, q5, e6, n6, q7, q8, decide_true, beq_self_eq_true, Bool.not_true, cond_true, cond_false, Option.bind_some, wr_succ hi hl]
    congr 1
    simp only [c_Msg]; omega
  · intro m k
    simp only [laws_heldMsgS_l2, lt_self, cond_false]
end Go.Eng.R
open Go Go.Eng
namespace Go.Eng.R
def chB (x : V) : Bool := !decide (gi x 0 < 97) && !decide (122 < gi x 0) || decide (gi x 0 = 47)
theorem all_take_succ {p : V → Bool} {l : List V} {i : Nat} (h : i < l.length) : (l.take (i + 1)).all p = ((l.take i).all p && p (rd l i)) := by
  rw [List.take_add_one, List.all_append]
  have : l[i]? = some (rd l i) := by simp [rd, List.getD, h]
  rw [this]; simp
theorem all_rd_false {p : V → Bool} {l : List V} {i : Nat} (h : i < l.length) (hp : p (rd l i) = false) : l.all p = false := by
  rw [List.all_eq_false]
  refine ⟨rd l i, ?_, by simp [hp]⟩
  have : rd l i = l[i] := by simp [rd, List.getD, h]
  rw [this]; exact List.getElem_mem h
theorem all_loop {ρ : Type} {F : Nat → Int → ρ} {l : List V} {p : V → Bool} {yes no : ρ}
    (h1 : ∀ m (i : Nat), i < l.length → F (m + 1) (i : Int) = bif p (rd l i) then F m ((i + 1 : Nat) : Int) else no) (h0 : ∀ m, F (m + 1) (l.length : Int) = yes) :
    F (l.length + 1) 0 = bif l.all p then yes else no := by
  refine loop_run0 (F := fun m (_ : Unit) i => F m i) (n := l.length) (fun i _ => (l.take i).all p = true) (fun o => o = bif l.all p then yes else no) ?_ ?_ (s := ()) (by simp)
  · intro m i s hi hI
    rw [h1 m i hi]
    cases hp : p (rd l i) with
    | true => exact .inl ⟨(), rfl, by rw [all_take_succ hi, hI, hp]; rfl⟩
    | false => exact .inr (by rw [all_rd_false hi hp]; rfl)
  · intro m s hI
    rw [List.take_length] at hI
    rw [hI]; exact h0 m
def keyB (b : List V) : Bool := decide (1 ≤ b.length) && (decide (b.length ≤ 20) && b.all chB)
theorem spec_l2key_eq {b : List V} (hb : LW W_byte b) : spec_l2key b = some (keyB b) := by
  have hl := hb.1
  unfold spec_l2key keyB
  by_cases h1 : 1 ≤ b.length
  · by_cases h2 : b.length ≤ 20
    · rw [show decide (((b.length : Nat) : Int) < 1) = false from by simp; omega, show decide ((20 : Int) < ((b.length : Nat) : Int)) = false from by simp; omega, cond_false, cond_false, fuel_eq,
        all_loop (F := fun m i => spec_l2key_l4 m b i) (l := b) (p := chB) (yes := some (1, false)) (no := some (0, false)) ?_ ?_]
      · simp only [h1, h2, decide_true, Bool.true_and]
        cases b.all chB <;> rfl
      · intro m i hi
        simp only [spec_l2key_l4, lt_nat hi, idxOk_nat hi, Int.toNat_natCast, cond_true, wr_succ hi hl, chB]
        cases decide (gi (rd b i) 0 < 97) <;> cases decide (122 < gi (rd b i) 0) <;> cases decide (gi (rd b i) 0 = 47) <;> rfl
      · intro m; simp only [spec_l2key_l4, lt_self, cond_false]
    · rw [show decide (((b.length : Nat) : Int) < 1) = false from by simp; omega, show decide ((20 : Int) < ((b.length : Nat) : Int)) = true from by simp; omega]
      simp [h2]
  · rw [show decide (((b.length : Nat) : Int) < 1) = true from by simp; omega]
    simp [h1]
theorem within_eq (n lo hi : Int) : impl_within n lo hi = decide (lo ≤ n ∧ n ≤ hi) := by
  unfold impl_within
  by_cases h : lo ≤ n <;> simp [h]
theorem impl_KeyOk_eq {b : List V} (hb : LW W_byte b) : impl_KeyOk b = some (keyB b) := by
  have hl := hb.1
  unfold impl_KeyOk keyB
  rw [fuel_eq, all_loop (F := fun m i => impl_KeyOk_l2 m b b ((b.length : Nat) : Int) i) (l := b) (p := chB) (yes := some (1, b, false)) (no := some (0, b, false)) ?_ ?_]
  · cases b.all chB with
    | true => simp only [cond_true, Option.bind_some, within_eq]; simp [Nat.beq]; by_cases h1 : 1 ≤ b.length <;> by_cases h2 : b.length ≤ 20 <;> simp [h1, h2] <;> omega
    | false => simp [Nat.beq]
  · intro m i hi
    simp only [impl_KeyOk_l2, lt_nat hi, idxOk_nat hi, Int.toNat_natCast, cond_true, wr_succ hi hl, chB]
    cases decide (gi (rd b i) 0 < 97) <;> cases decide (122 < gi (rd b i) 0) <;> cases decide (gi (rd b i) 0 = 47) <;> rfl
  · intro m; simp only [impl_KeyOk_l2, lt_self, cond_false]
def opB (k : Int) (key : Bool) (nk nv : Nat) (n : Int) : Bool :=
  decide (nv ≤ 20) && (decide (0 ≤ n ∧ n ≤ 1000000) &&
    (bif decide (k = 1 ∨ k = 2 ∨ k = 3 ∨ k = 6 ∨ k = 7) then key else decide (nk = 0)) &&
    ((bif decide (k = 1 ∨ k = 2 ∨ k = 6) then true else decide (nv = 0)) &&
    ((bif decide (k = 0 ∨ k = 1 ∨ k = 3) then decide (n = 0) else bif decide (k = 4) then decide (n ≤ 1) else bif decide (k = 2) then true else decide (1 ≤ n)) && decide (0 ≤ k ∧ k ≤ 7))))
theorem impl_OpOk_eq {o : V} (ho : W_Op o) : impl_OpOk o = some (opB (gi o 0) (keyB (gl o 1)) (gl o 1).length (gl o 2).length (gi o 3)) := by
  unfold impl_OpOk
  rw [impl_KeyOk_eq ho.2.1]
  simp only [within_eq, impl_isValue, Option.bind_some]
  generalize gi o 0 = k
  generalize keyB (gl o 1) = key
  generalize (gl o 1).length = nk
  generalize (gl o 2).length = nv
  generalize gi o 3 = n
  by_cases hk : 0 ≤ k ∧ k ≤ 7
  · obtain rfl | rfl | rfl | rfl | rfl | rfl | rfl | rfl : k = 0 ∨ k = 1 ∨ k = 2 ∨ k = 3 ∨ k = 4 ∨ k = 5 ∨ k = 6 ∨ k = 7 := by omega
    all_goals (cases key <;> simp [opB, Bool.cond_eq_ite] <;> (repeat' split) <;> simp_all <;> first | omega | (rw [Bool.eq_iff_iff]; simp; omega))
  · have hh : decide (0 ≤ k ∧ k ≤ 7) = false := by simpa using hk
    have h0 : decide (k = 0) = false := by simp; omega
    have h1 : decide (k = 1) = false := by simp; omega
    have h2 : decide (k = 2) = false := by simp; omega
    have h3 : decide (k = 3) = false := by simp; omega
    have h4 : decide (k = 4) = false := by simp; omega
    have h5 : decide (k = 5) = false := by simp; omega
    have h6 : decide (k = 6) = false := by simp; omega
    have h7 : decide (k = 7) = false := by simp; omega
    simp only [opB, hh, h0, h1, h2, h3, h4, h5, h6, h7, cond_false, Bool.and_false]
theorem spec_OpOk_eq {o : V} (ho : W_Op o) : spec_OpOk o = some (opB (gi o 0) (keyB (gl o 1)) (gl o 1).length (gl o 2).length (gi o 3)) := by
  unfold spec_OpOk
  rw [spec_l2key_eq ho.2.1]
  simp only [spec_l2val, spec_l2index, Option.bind_some]
  generalize gi o 0 = k
  generalize keyB (gl o 1) = key
  generalize (gl o 1).length = nk
  generalize (gl o 2).length = nv
  generalize gi o 3 = n
  by_cases hk : 0 ≤ k ∧ k ≤ 7
  · obtain rfl | rfl | rfl | rfl | rfl | rfl | rfl | rfl : k = 0 ∨ k = 1 ∨ k = 2 ∨ k = 3 ∨ k = 4 ∨ k = 5 ∨ k = 6 ∨ k = 7 := by omega
    all_goals (cases key <;> simp [opB, Bool.cond_eq_ite] <;> (repeat' split) <;> simp_all <;> omega)
  · have hh : decide (0 ≤ k ∧ k ≤ 7) = false := by simpa using hk
    simp only [opB, hh, Bool.and_false]
    by_cases h : k < 0
    · simp [h]
    · rw [show decide (k < 0) = false from by simpa using h, show decide (7 < k) = true from by simp; omega]; rfl
def cmdB (c : V) : Bool :=
  bif decide (gi c 0 = -1) then decide (gi c 1 = 0) && (decide (gi c 2 = 0) && opB (gi c 2) (keyB (gl c 3)) (gl c 3).length (gl c 4).length (gi c 5))
  else decide (0 ≤ gi c 0 ∧ gi c 0 ≤ 3) && (decide (1 ≤ gi c 1 ∧ gi c 1 ≤ 1000000) && opB (gi c 2) (keyB (gl c 3)) (gl c 3).length (gl c 4).length (gi c 5))
theorem spec_CmdOk_eq {c : V} (hc : W_Cmd c) : spec_CmdOk c = some (cmdB c) := by
  unfold spec_CmdOk
  rw [spec_OpOk_eq (o := V.agg [(V.int .i64 (gi c 2)), (V.inl t_byte (gl c 3)), (V.inl t_byte (gl c 4)), (V.int .i64 (gi c 5))]) hc.2.2]
  simp only [Option.bind_some, gi_c0, gi_cs, gl_c0, gl_cs, cmdB]
  generalize opB _ _ _ _ _ = z
  by_cases h1 : gi c 0 = -1
  · simp only [h1, decide_true, cond_true]
    by_cases h2 : gi c 1 = 0 <;> by_cases h3 : gi c 2 = 0 <;> simp [h2, h3]
  · simp only [h1, decide_false, cond_false]
    by_cases h2 : 0 ≤ gi c 0 <;> by_cases h3 : gi c 0 < 4 <;> by_cases h4 : 1 ≤ gi c 1 <;> by_cases h5 : gi c 1 ≤ 1000000 <;> simp [h2, h3, h4, h5] <;> omega
theorem eqList_nil (l : List V) : eqList (l.map normB) [] = decide (l.length = 0) := by cases l <;> simp [eqList]
theorem impl_same_noOp (c : V) : impl_Cmd_same (n_laws_Cmd c) (n_laws_Cmd impl_noOp) = (decide (gi c 0 = -1) && (decide (gi c 1 = 0) && (decide (gi c 2 = 0) && (decide ((gl c 3).length = 0) && (decide ((gl c 4).length = 0) && decide (gi c 5 = 0)))))) := by
  simp only [impl_Cmd_same, impl_Op_same, impl_noOp, n_laws_Cmd, gi_c0, gi_cs, gl_c0, gl_cs, bytes_Equal, List.map_nil, eqList_nil]
  by_cases h0 : gi c 0 = -1 <;> by_cases h1 : gi c 1 = 0 <;> by_cases h2 : gi c 2 = 0 <;> by_cases h3 : (gl c 3).length = 0 <;> by_cases h4 : (gl c 4).length = 0 <;> simp [h0, h1, h2, h3, h4] <;> rfl
theorem impl_CmdOk_eq {c : V} (hc : W_Cmd c) : impl_CmdOk c = some (cmdB c) := by
  unfold impl_CmdOk
  rw [impl_OpOk_eq (o := V.agg [(V.int .i64 (gi c 2)), (V.inl t_byte (gl c 3)), (V.inl t_byte (gl c 4)), (V.int .i64 (gi c 5))]) hc.2.2, impl_same_noOp]
  simp only [Option.bind_some, gi_c0, gi_cs, gl_c0, gl_cs, cmdB, within_eq]
  by_cases h1 : gi c 0 = -1
  · simp only [h1, decide_true, cond_true, Bool.true_and]
    rw [show decide (0 ≤ (-1 : Int) ∧ (-1 : Int) ≤ 3) = false from rfl]
    by_cases h2 : gi c 1 = 0 <;> by_cases h3 : gi c 2 = 0 <;> simp only [h2, h3, decide_true, decide_false, Bool.true_and, Bool.false_and, cond_false]
    simp only [opB]
    by_cases a3 : (gl c 3).length = 0 <;> by_cases a4 : (gl c 4).length = 0 <;> by_cases a5 : gi c 5 = 0 <;> simp [a3, a4, a5]
  · simp only [h1, decide_false, cond_false, Bool.false_and]
    generalize opB _ _ _ _ _ = z
    by_cases h2 : 0 ≤ gi c 0 ∧ gi c 0 ≤ 3 <;> by_cases h3 : 1 ≤ gi c 1 ∧ gi c 1 ≤ 1000000 <;> simp [h2, h3]
def itemB (x : V) : Bool := decide (1 ≤ gi x 0 ∧ gi x 0 ≤ 100000) && cmdB (V.agg [(V.int .i64 (gi x 1)), (V.int .i64 (gi x 2)), (V.int .i64 (gi x 3)), (V.inl t_byte (gl x 4)), (V.inl t_byte (gl x 5)), (V.int .i64 (gi x 6))])
theorem spec_ItemOk_eq {x : V} (hx : W_Item x) : spec_ItemOk x = some (itemB x) := by
  unfold spec_ItemOk itemB
  rw [spec_CmdOk_eq (c := V.agg [(V.int .i64 (gi x 1)), (V.int .i64 (gi x 2)), (V.int .i64 (gi x 3)), (V.inl t_byte (gl x 4)), (V.inl t_byte (gl x 5)), (V.int .i64 (gi x 6))]) hx.2]
  by_cases h1 : 1 ≤ gi x 0 <;> by_cases h2 : gi x 0 ≤ 100000 <;> simp [h1, h2]
theorem impl_ItemOk_eq {x : V} (hx : W_Item x) : impl_ItemOk x = some (itemB x) := by
  unfold impl_ItemOk itemB impl_isTerm
  rw [impl_CmdOk_eq (c := V.agg [(V.int .i64 (gi x 1)), (V.int .i64 (gi x 2)), (V.int .i64 (gi x 3)), (V.inl t_byte (gl x 4)), (V.inl t_byte (gl x 5)), (V.int .i64 (gi x 6))]) hx.2, within_eq]
  by_cases h1 : 1 ≤ gi x 0 ∧ gi x 0 ≤ 100000 <;> simp [h1]
end Go.Eng.R
open Go Go.Eng
namespace Go.Eng.R
open Classical
theorem range_all_succ {p : Nat → Bool} {i : Nat} : (List.range (i + 1)).all p = ((List.range i).all p && p i) := by
  rw [List.range_succ, List.all_append]; simp
theorem range_all_false {p : Nat → Bool} {i n : Nat} (h : i < n) (hp : p i = false) : (List.range n).all p = false := by
  rw [List.all_eq_false]
  exact ⟨i, List.mem_range.2 h, by simp [hp]⟩
theorem all_run {σ ρ : Type} {F : Nat → σ → Int → ρ} {n : Nat} {p : Nat → Bool} {yes no : ρ} (I : Nat → σ → Prop)
    (h1 : ∀ m i s, i < n → I i s → (p i = true ∧ ∃ s', F (m + 1) s (i : Int) = F m s' ((i + 1 : Nat) : Int) ∧ I (i + 1) s') ∨ (p i = false ∧ F (m + 1) s (i : Int) = no))
    (h0 : ∀ m s, I n s → F (m + 1) s (n : Int) = yes) {s : σ} (hs : I 0 s) : F (n + 1) s 0 = bif (List.range n).all p then yes else no := by
  refine loop_run0 (F := F) (n := n) (fun i s => (List.range i).all p = true ∧ I i s) (fun o => o = bif (List.range n).all p then yes else no) ?_ ?_ (s := s) ⟨by simp, hs⟩
  · intro m i s hi hI
    rcases h1 m i s hi hI.2 with ⟨hp, s', e, hI'⟩ | ⟨hp, e⟩
    · exact .inl ⟨s', e, by rw [range_all_succ, hI.1, hp]; rfl, hI'⟩
    · exact .inr (by rw [e, range_all_false hi hp]; rfl)
  · intro m s hI
    rw [hI.1]; exact h0 m s hI.2
theorem all_range {ρ : Type} {F : Nat → Int → ρ} {n : Nat} {p : Nat → Bool} {yes no : ρ}
    (h1 : ∀ m i, i < n → F (m + 1) (i : Int) = bif p i then F m ((i + 1 : Nat) : Int) else no) (h0 : ∀ m, F (m + 1) (n : Int) = yes) : F (n + 1) 0 = bif (List.range n).all p then yes else no := by
  refine all_run (F := fun m (_ : Unit) i => F m i) (fun _ _ => True) (fun m i s hi _ => ?_) (fun m _ _ => h0 m) (s := ()) trivial
  have := h1 m i hi
  cases hp : p i with
  | true => exact .inl ⟨rfl, (), by rw [this, hp]; rfl, trivial⟩
  | false => exact .inr ⟨rfl, by rw [this, hp]; rfl⟩
theorem chk {c b : Bool} {rest : Option Bool} (h1 : c = true → b = false) (h2 : c = false → rest = some b) : (bif c then some false else rest) = some b := by
  cases c with
  | true => rw [h1 rfl]; rfl
  | false => exact h2 rfl
def logB (n : V) (i : Nat) : Bool := itemB (rd (gl n 3) i) && (decide (gi (rd (gl n 3) i) 0 ≤ gi n 1) && (decide (i = 0) || decide (gi (rd (gl n 3) (i - 1)) 0 ≤ gi (rd (gl n 3) i) 0)))
def cellB (n : V) (i : Nat) : Bool :=
  bif decide (gi n 5 = 2) then decide (1 ≤ gi (rd (gl n 9) i) 0 ∧ gi (rd (gl n 9) i) 0 ≤ ((gl n 3).length : Int) + 1) && decide (0 ≤ gi (rd (gl n 10) i) 0 ∧ gi (rd (gl n 10) i) 0 ≤ ((gl n 3).length : Int))
  else decide (gi (rd (gl n 9) i) 0 = 0) && decide (gi (rd (gl n 10) i) 0 = 0)
def voteB (n : V) (i : Nat) : Bool := !(decide (gi n 5 = 0)) || !(gb (rd (gl n 8) i) 0)
structure NodeP (n : V) (k : Int) : Prop where
  k1 : 1 ≤ k
  k5 : k ≤ 5
  id0 : 0 ≤ gi n 0
  idk : gi n 0 < k
  term0 : 0 ≤ gi n 1
  term1 : gi n 1 ≤ 100000
  vote0 : -1 ≤ gi n 2
  votek : gi n 2 < k
  lead0 : -1 ≤ gi n 6
  leadk : gi n 6 < k
  len : ((gl n 3).length : Int) ≤ 400
  com0 : 0 ≤ gi n 4
  com1 : gi n 4 ≤ ((gl n 3).length : Int)
  role0 : 0 ≤ gi n 5
  role2 : gi n 5 ≤ 2
  wait0 : 0 ≤ gi n 7
  wait1 : gi n 7 ≤ 20
  lvotes : ((gl n 8).length : Int) = k
  lnext : ((gl n 9).length : Int) = k
  lmatch : ((gl n 10).length : Int) = k
  items : (List.range (gl n 3).length).all (logB n) = true
  cells : (List.range (gl n 9).length).all (cellB n) = true
  votes : (List.range (gl n 8).length).all (voteB n) = true
  stands : gi n 5 ≠ 0 → 1 ≤ gi n 1 ∧ gi n 2 = gi n 0
  leads : gi n 5 = 2 → gi n 6 = gi n 0
noncomputable def nodeB (n : V) (k : Int) : Bool := decide (NodeP n k)
theorem nodeB_false {n : V} {k : Int} (h : NodeP n k → False) : nodeB n k = false := decide_eq_false h
theorem spec_log_run {n : V} (hn : W_Node n) (servers : Int) : spec_NodeOk_l4 ((gl n 3).length + 1) servers 0 (n_impl_Node n) =
    bif (List.range (gl n 3).length).all (logB n) then some (1, servers, false, n_impl_Node n) else some (0, servers, false, n_impl_Node n) := by
  have hl := hn.2.2.2.1.1
  refine all_range (F := fun m i => spec_NodeOk_l4 m servers i (n_impl_Node n)) (fun m i hi => ?_) (fun m => ?_)
  · have e : spec_ItemOk (n_laws_Item (rd (gl n 3) i)) = some (itemB (rd (gl n 3) i)) := spec_ItemOk_eq (x := n_laws_Item (rd (gl n 3) i)) (hn.2.2.2.1.rd hi)
    show spec_NodeOk_l4 (m + 1) servers i (n_impl_Node n) = _
    rw [spec_NodeOk_l4]
    simp only [show gl (n_impl_Node n) 3 = gl n 3 from rfl, show gi (n_impl_Node n) 1 = gi n 1 from rfl, lt_nat hi, idxOk_nat hi, Int.toNat_natCast, cond_true, e, Option.bind_some, logB, wr_succ hi hl]
    cases hit : itemB (rd (gl n 3) i) with
    | false => rfl
    | true =>
      simp only [Bool.not_true, cond_false, Bool.true_and]
      by_cases h1 : gi (rd (gl n 3) i) 0 ≤ gi n 1
      · rw [show decide (gi n 1 < gi (rd (gl n 3) i) 0) = false from by simp; omega, cond_false, decide_eq_true h1, Bool.true_and]
        cases i with
        | zero => simp; rfl
        | succ j =>
          have hj : j < (gl n 3).length := by omega
          have ew : IntKind.i64.wrap (((j + 1 : Nat) : Int) - 1) = ((j : Nat) : Int) := by rw [wr64' (by omega) (by omega)]; omega
          rw [show decide ((0 : Int) < ((j + 1 : Nat) : Int)) = true from decide_eq_true (by omega), cond_true, ew, idxOk_nat hj, cond_true, Int.toNat_natCast, show decide (j + 1 = 0) = false from by simp, Bool.false_or, Nat.add_sub_cancel]
          by_cases h2 : gi (rd (gl n 3) j) 0 ≤ gi (rd (gl n 3) (j + 1)) 0
          · rw [show decide (gi (rd (gl n 3) (j + 1)) 0 < gi (rd (gl n 3) j) 0) = false from by simp; omega, decide_eq_true h2]; rfl
          · rw [show decide (gi (rd (gl n 3) (j + 1)) 0 < gi (rd (gl n 3) j) 0) = true from by simp; omega, decide_eq_false h2]; rfl
      · rw [show decide (gi n 1 < gi (rd (gl n 3) i) 0) = true from by simp; omega, decide_eq_false h1]; rfl
  · show spec_NodeOk_l4 (m + 1) servers _ (n_impl_Node n) = _
    rw [spec_NodeOk_l4]
    simp only [show gl (n_impl_Node n) 3 = gl n 3 from rfl, lt_self, cond_false]
    rfl
theorem impl_log_run {n : V} (hn : W_Node n) (servers : Int) : impl_NodeOk_l5 ((gl n 3).length + 1) servers 1 (gl n 3) ((gl n 3).length : Int) 0 (n_impl_Node n) =
    bif (List.range (gl n 3).length).all (logB n) then some (1, servers, false, n_impl_Node n) else some (0, servers, false, n_impl_Node n) := by
  have hl := hn.2.2.2.1.1
  refine all_run (F := fun m t i => impl_NodeOk_l5 m servers t (gl n 3) ((gl n 3).length : Int) i (n_impl_Node n)) (fun i t => t = if i = 0 then 1 else gi (rd (gl n 3) (i - 1)) 0) (fun m i t hi ht => ?_) (fun m t ht => ?_) rfl
  · have e : impl_ItemOk (n_laws_Item (rd (gl n 3) i)) = some (itemB (rd (gl n 3) i)) := impl_ItemOk_eq (x := n_laws_Item (rd (gl n 3) i)) (hn.2.2.2.1.rd hi)
    have e0 : impl_NodeOk_l5 (m + 1) servers t (gl n 3) ((gl n 3).length : Int) i (n_impl_Node n) = bif (!(itemB (rd (gl n 3) i))) then some (0, servers, false, n_impl_Node n) else bif (!(decide (t ≤ gi (rd (gl n 3) i) 0 ∧ gi (rd (gl n 3) i) 0 ≤ gi n 1))) then some (0, servers, false, n_impl_Node n)
        else impl_NodeOk_l5 m servers (gi (rd (gl n 3) i) 0) (gl n 3) ((gl n 3).length : Int) ((i + 1 : Nat) : Int) (n_impl_Node n) := by
      rw [impl_NodeOk_l5]
      simp only [lt_nat hi, idxOk_nat hi, Int.toNat_natCast, cond_true, e, Option.bind_some, wr_succ hi hl, within_eq]
      rfl
    have hterm : itemB (rd (gl n 3) i) = true → 1 ≤ gi (rd (gl n 3) i) 0 := fun h => by
      simp only [itemB, Bool.and_eq_true, decide_eq_true_eq] at h; exact h.1.1
    cases hp : logB n i with
    | true =>
      refine .inl ⟨rfl, _, ?_, by simp; rfl⟩
      simp only [logB, Bool.and_eq_true, decide_eq_true_eq, Bool.or_eq_true] at hp
      obtain ⟨p1, p2, p3⟩ := hp
      rw [e0, p1]
      have : t ≤ gi (rd (gl n 3) i) 0 ∧ gi (rd (gl n 3) i) 0 ≤ gi n 1 := by
        refine ⟨?_, p2⟩
        subst ht
        have := hterm p1
        split
        · exact this
        · rename_i h; rcases p3 with h' | h'
          · exact absurd h' h
          · exact h'
      rw [decide_eq_true this]; rfl
    | false =>
      refine .inr ⟨rfl, ?_⟩
      rw [e0]
      cases p1 : itemB (rd (gl n 3) i) with
      | false => rfl
      | true =>
        have : ¬ (t ≤ gi (rd (gl n 3) i) 0 ∧ gi (rd (gl n 3) i) 0 ≤ gi n 1) := by
          rintro ⟨h1, h2⟩
          rw [logB, p1, decide_eq_true h2, Bool.true_and, Bool.true_and] at hp
          subst ht
          by_cases h0 : i = 0
          · simp [h0] at hp
          · rw [if_neg h0] at h1
            simp [h1] at hp
        rw [decide_eq_false this]; rfl
  · show impl_NodeOk_l5 (m + 1) servers t _ _ _ (n_impl_Node n) = _
    rw [impl_NodeOk_l5]
    simp only [lt_self, cond_false]
    rfl
theorem lt_not (a b : Int) : decide (a < b) = !decide (b ≤ a) := by by_cases h : a < b <;> simp [h] <;> omega
theorem spec_cell_run {n : V} (hn : W_Node n) {N : Nat} (h8 : (gl n 8).length = N) (h9 : (gl n 9).length = N) (h10 : (gl n 10).length = N) (hlog : (gl n 3).length ≤ 400) : spec_NodeOk_l11 (N + 1) (N : Int) 0 (n_impl_Node n) =
    bif (List.range N).all (fun i => cellB n i && voteB n i) then some (1, false, n_impl_Node n) else some (0, false, n_impl_Node n) := by
  have hl := hn.2.2.2.2.2.2.2.2.1.1
  rw [h8] at hl
  refine all_range (F := fun m i => spec_NodeOk_l11 m (N : Int) i (n_impl_Node n)) (fun m i hi => ?_) (fun m => ?_)
  · have i8 : idxOk (i : Int) (gl n 8).length = true := idxOk_nat (by omega)
    have i9 : idxOk (i : Int) (gl n 9).length = true := idxOk_nat (by omega)
    have i10 : idxOk (i : Int) (gl n 10).length = true := idxOk_nat (by omega)
    show spec_NodeOk_l11 (m + 1) (N : Int) i (n_impl_Node n) = _
    rw [spec_NodeOk_l11]
    simp only [show ∀ j, gl (n_impl_Node n) 3 = gl n 3 from fun _ => rfl, show gl (n_impl_Node n) 8 = gl n 8 from rfl, show gl (n_impl_Node n) 9 = gl n 9 from rfl, show gl (n_impl_Node n) 10 = gl n 10 from rfl, show gi (n_impl_Node n) 5 = gi n 5 from rfl, lt_nat hi, i8, i9, i10, Int.toNat_natCast, cond_true, wr_succ hi hl, show n_impl_Node (n_impl_Node n) = n_impl_Node n from rfl, show gl (n_impl_Node n) 3 = gl n 3 from rfl]
    rw [wr64' (n := ((gl n 3).length : Int) + 1) (by omega) (by omega)]
    simp only [cellB, voteB]
    generalize spec_NodeOk_l11 m _ _ _ = R
    generalize gi (rd (gl n 9) i) 0 = a
    generalize gi (rd (gl n 10) i) 0 = b
    generalize gb (rd (gl n 8) i) 0 = v
    generalize ((gl n 3).length : Int) = L
    by_cases h2 : gi n 5 = 2
    · have h0 : ¬ gi n 5 = 0 := by omega
      simp only [h2, decide_true, cond_true, Bool.not_true, cond_false, show decide ((2 : Int) = 0) = false from rfl, Bool.not_false, Bool.true_or, Bool.and_true]
      simp only [lt_not, Bool.decide_and]
      cases decide (1 ≤ a) <;> cases decide (a ≤ L + 1) <;> cases decide (0 ≤ b) <;> cases decide (b ≤ L) <;> rfl
    · simp only [h2, decide_false, cond_false, Bool.not_false, cond_true]
      by_cases a1 : a = 0 <;> by_cases a2 : b = 0 <;> by_cases a3 : gi n 5 = 0 <;> cases v <;> simp [a1, a2, a3]
  · show spec_NodeOk_l11 (m + 1) _ _ (n_impl_Node n) = _
    rw [spec_NodeOk_l11]
    simp only [lt_self, cond_false]
    rfl
theorem impl_cell_run {n : V} (hn : W_Node n) {N : Nat} (h8 : (gl n 8).length = N) (h9 : (gl n 9).length = N) (h10 : (gl n 10).length = N) (hlog : (gl n 3).length ≤ 400) : impl_NodeOk_l16 (N + 1) (N : Int) 0 (n_impl_Node n) =
    bif (List.range N).all (cellB n) then some (1, false) else some (0, false) := by
  have hl := hn.2.2.2.2.2.2.2.2.1.1
  rw [h8] at hl
  refine all_range (F := fun m i => impl_NodeOk_l16 m (N : Int) i (n_impl_Node n)) (fun m i hi => ?_) (fun m => ?_)
  · have i9 : idxOk (i : Int) (gl n 9).length = true := idxOk_nat (by omega)
    have i10 : idxOk (i : Int) (gl n 10).length = true := idxOk_nat (by omega)
    show impl_NodeOk_l16 (m + 1) (N : Int) i (n_impl_Node n) = _
    rw [impl_NodeOk_l16]
    simp only [show gl (n_impl_Node n) 9 = gl n 9 from rfl, show gl (n_impl_Node n) 10 = gl n 10 from rfl, show gi (n_impl_Node n) 5 = gi n 5 from rfl, lt_nat hi, i9, i10, Int.toNat_natCast, cond_true, wr_succ hi hl, show n_impl_Node (n_impl_Node n) = n_impl_Node n from rfl, show gl (n_impl_Node n) 3 = gl n 3 from rfl]
    rw [wr64' (n := ((gl n 3).length : Int) + 1) (by omega) (by omega)]
    simp only [cellB, within_eq]
    generalize impl_NodeOk_l16 m _ _ _ = R
    generalize gi (rd (gl n 9) i) 0 = a
    generalize gi (rd (gl n 10) i) 0 = b
    generalize ((gl n 3).length : Int) = L
    by_cases h2 : gi n 5 = 2
    · simp only [h2, decide_true, cond_true, Bool.not_true, cond_false]
      by_cases a1 : 1 ≤ a ∧ a ≤ L + 1 <;> by_cases a2 : 0 ≤ b ∧ b ≤ L <;> simp [a1, a2]
    · simp only [h2, decide_false, cond_false, Bool.not_false, cond_true]
      by_cases a1 : a = 0 <;> by_cases a2 : b = 0 <;> simp [a1, a2]
  · show impl_NodeOk_l16 (m + 1) _ _ (n_impl_Node n) = _
    rw [impl_NodeOk_l16]
    simp only [lt_self, cond_false]
theorem bools_W (l : List V) : True := trivial
theorem contains_eq {l : List V} (hl : l.length ≤ 9223372036854775807) : slices_Contains_bool l true = some (!(List.range l.length).all (fun i => !gb (rd l i) 0)) := by
  unfold slices_Contains_bool slices_Index_bool
  rw [fuel_eq]
  have key : (fun o : Option (Nat × Int) => ∃ p, o = some p ∧ ((p.1 = 1 ∧ (List.range l.length).all (fun i => !gb (rd l i) 0) = true) ∨ (p.1 = 0 ∧ 0 ≤ p.2 ∧ (List.range l.length).all (fun i => !gb (rd l i) 0) = false))) (slices_Index_bool_l2 (l.length + 1) l true (l.length : Int) 0) := by
    refine loop_run0 (F := fun m (_ : Unit) i => slices_Index_bool_l2 m l true (l.length : Int) i) (n := l.length) (fun i _ => (List.range i).all (fun i => !gb (rd l i) 0) = true) (fun o : Option (Nat × Int) => ∃ p, o = some p ∧ ((p.1 = 1 ∧ (List.range l.length).all (fun i => !gb (rd l i) 0) = true) ∨ (p.1 = 0 ∧ 0 ≤ p.2 ∧ (List.range l.length).all (fun i => !gb (rd l i) 0) = false))) ?_ ?_ (s := ()) (by simp)
    · intro m i s hi hI
      simp only [slices_Index_bool_l2, lt_nat hi, idxOk_nat hi, Int.toNat_natCast, cond_true, wr_succ hi hl]
      cases hv : gb (rd l i) 0 with
      | true => exact .inr ⟨(0, (i : Int)), rfl, .inr ⟨rfl, by simp, range_all_false (p := fun i => !gb (rd l i) 0) hi (by simp [hv])⟩⟩
      | false => exact .inl ⟨(), rfl, by rw [range_all_succ, hI, hv]; rfl⟩
    · intro m s hI
      exact ⟨(1, 0), by simp only [slices_Index_bool_l2, lt_self, cond_false], .inl ⟨rfl, hI⟩⟩
  obtain ⟨p, e, hp⟩ := key
  rw [e, Option.bind_some]
  rcases hp with ⟨p1, p2⟩ | ⟨p1, p2, p3⟩
  · rw [p1, p2]; rfl
  · rw [p1, p3]
    show some (decide (0 ≤ p.2)) = _
    rw [decide_eq_true p2]; rfl
end Go.Eng.R
open Go Go.Eng
namespace Go.Eng.R
open Classical
theorem range_and (p q : Nat → Bool) (n : Nat) : (List.range n).all (fun i => p i && q i) = ((List.range n).all p && (List.range n).all q) := by
  induction n with
  | zero => rfl
  | succ n ih => rw [range_all_succ, range_all_succ, range_all_succ, ih]; cases (List.range n).all p <;> cases (List.range n).all q <;> cases p n <;> cases q n <;> rfl
theorem servers_eq (k : Int) : spec_l4servers k = decide (1 ≤ k ∧ k ≤ 5) := by
  unfold spec_l4servers; by_cases h : 1 ≤ k <;> simp [h]
theorem term_eq (k : Int) : spec_l3term k = decide (0 ≤ k ∧ k ≤ 100000) := by
  unfold spec_l3term; by_cases h : 0 ≤ k <;> simp [h]
theorem who_eq (n k : Int) : spec_l4who n k = decide (-1 ≤ n ∧ n < k) := by
  unfold spec_l4who; by_cases h : -1 ≤ n <;> simp [h]
theorem not_of {p : Prop} [Decidable p] (h : (!decide p) = true) : ¬ p := by simpa using h
theorem of_not {p : Prop} [Decidable p] (h : (!decide p) = false) : p := by simpa using h
theorem yes_of {p : Prop} [Decidable p] (h : decide p = true) : p := by simpa using h
theorem no_of {p : Prop} [Decidable p] (h : decide p = false) : ¬ p := by simpa using h
theorem spec_NodeOk_eq {n : V} (hn : W_Node n) (k : Int) : spec_NodeOk (n_impl_Node n) k = some (nodeB n k) := by
  unfold spec_NodeOk
  simp only [servers_eq, term_eq, who_eq, fuel_eq, show n_impl_Node (n_impl_Node n) = n_impl_Node n from rfl]
  show (bif _ then _ else _) = _
  refine chk (fun h => nodeB_false fun p => not_of h ⟨p.k1, p.k5⟩) fun h => ?_
  obtain ⟨k1, k5⟩ := of_not h
  refine chk (fun h => nodeB_false fun p => absurd (yes_of h) (Int.not_lt.2 p.id0)) fun h => ?_
  have id0 := no_of h
  refine chk (fun h => nodeB_false fun p => absurd (yes_of h) (Int.not_le.2 p.idk)) fun h => ?_
  have idk := no_of h
  refine chk (fun h => nodeB_false fun p => not_of h ⟨p.term0, p.term1⟩) fun h => ?_
  have term := of_not h
  refine chk (fun h => nodeB_false fun p => not_of h ⟨p.vote0, p.votek⟩) fun h => ?_
  have vote := of_not h
  refine chk (fun h => nodeB_false fun p => absurd (yes_of h) (Int.not_lt.2 p.len)) fun h => ?_
  have len := no_of h
  refine chk (fun h => nodeB_false fun p => absurd (yes_of h) (Int.not_lt.2 p.com0)) fun h => ?_
  have com0 := no_of h
  refine chk (fun h => nodeB_false fun p => absurd (yes_of h) (Int.not_lt.2 p.com1)) fun h => ?_
  have com1 := no_of h
  refine chk (fun h => nodeB_false fun p => absurd (yes_of h) (Int.not_lt.2 p.role0)) fun h => ?_
  have role0 := no_of h
  refine chk (fun h => nodeB_false fun p => absurd (yes_of h) (Int.not_lt.2 p.role2)) fun h => ?_
  have role2 := no_of h
  refine chk (fun h => nodeB_false fun p => not_of h ⟨p.lead0, p.leadk⟩) fun h => ?_
  have lead := of_not h
  refine chk (fun h => nodeB_false fun p => absurd (yes_of h) (Int.not_lt.2 p.wait0)) fun h => ?_
  have wait0 := no_of h
  refine chk (fun h => nodeB_false fun p => absurd (yes_of h) (Int.not_lt.2 p.wait1)) fun h => ?_
  have wait1 := no_of h
  refine chk (fun h => nodeB_false fun p => not_of h p.lvotes) fun h => ?_
  have lvotes := of_not h
  refine chk (fun h => nodeB_false fun p => not_of h p.lnext) fun h => ?_
  have lnext := of_not h
  refine chk (fun h => nodeB_false fun p => not_of h p.lmatch) fun h => ?_
  have lmatch := of_not h
  clear h
  have l8 : ((gl n 8).length : Int) = k := lvotes
  have l9 : ((gl n 9).length : Int) = k := lnext
  have l10 : ((gl n 10).length : Int) = k := lmatch
  have hlen : (gl n 3).length ≤ 400 := by
    have : ¬ (400 : Int) < ((gl n 3).length : Int) := len
    omega
  rw [show gl (n_impl_Node n) 3 = gl n 3 from rfl, spec_log_run hn k]
  cases hit : (List.range (gl n 3).length).all (logB n) with
  | false => exact (congrArg some (nodeB_false fun p => by rw [p.items] at hit; cases hit)).symm
  | true =>
    have hcell := spec_cell_run hn (N := (gl n 8).length) rfl (by omega) (by omega) hlen
    rw [l8] at hcell
    simp only [cond_true, Option.bind_some, show Nat.beq 1 0 = false from rfl, cond_false]
    rw [show (k - 0).toNat + 1 = (gl n 8).length + 1 from by omega, show gi (n_impl_Node n) 5 = gi n 5 from rfl, show gi (n_impl_Node n) 1 = gi n 1 from rfl, show gi (n_impl_Node n) 2 = gi n 2 from rfl, show gi (n_impl_Node n) 0 = gi n 0 from rfl,
      show n_impl_Node (n_impl_Node n) = n_impl_Node n from rfl, hcell, range_and]
    have fin : ∀ (c v : Bool), (List.range (gl n 8).length).all (cellB n) = c → (List.range (gl n 8).length).all (voteB n) = v → (gi n 5 ≠ 0 → 1 ≤ gi n 1 ∧ gi n 2 = gi n 0) →
        (Option.bind (bif (c && v) then some (1, false, n_impl_Node n) else some (0, false, n_impl_Node n)) fun r29 => bif (Nat.beq r29.1 0) then some r29.2.1 else bif (!(decide ((gi r29.2.2 5) = 2))) then some true else some (decide ((gi r29.2.2 6) = (gi r29.2.2 0)))) = some (nodeB n k) := by
      intro c v hc hv hst
      cases c with
      | false => exact (congrArg some (nodeB_false fun p => by have := p.cells; rw [show (gl n 9).length = (gl n 8).length from by omega, hc] at this; cases this)).symm
      | true =>
        cases v with
        | false => exact (congrArg some (nodeB_false fun p => by have := p.votes; rw [hv] at this; cases this)).symm
        | true =>
          show (bif (!(decide (gi n 5 = 2))) then some true else some (decide (gi n 6 = gi n 0))) = _
          have mk : (gi n 5 = 2 → gi n 6 = gi n 0) → nodeB n k = true := fun hl => decide_eq_true
            { k1 := k1, k5 := k5, id0 := Int.not_lt.1 id0, idk := Int.not_le.1 idk, term0 := term.1, term1 := term.2, vote0 := vote.1, votek := vote.2, lead0 := lead.1, leadk := lead.2,
              len := by omega, com0 := Int.not_lt.1 com0, com1 := Int.not_lt.1 com1, role0 := Int.not_lt.1 role0, role2 := Int.not_lt.1 role2, wait0 := Int.not_lt.1 wait0, wait1 := Int.not_lt.1 wait1,
              lvotes := l8, lnext := l9, lmatch := l10, items := hit, cells := by rw [show (gl n 9).length = (gl n 8).length from by omega]; exact hc, votes := hv, stands := hst, leads := hl }
          by_cases h2 : gi n 5 = 2
          · by_cases h6 : gi n 6 = gi n 0
            · rw [mk fun _ => h6]; simp [h2, h6]
            · rw [nodeB_false fun p => h6 (p.leads h2)]; simp [h2, h6]
          · rw [mk fun h => absurd h h2]; simp [h2]
    by_cases h5 : gi n 5 = 0
    · simp only [h5, decide_true, Bool.not_true, cond_false]
      have := fin _ _ rfl rfl (fun h => absurd h5 h)
      exact this
    · simp only [h5, decide_false, Bool.not_false, cond_true]
      refine chk (fun h => nodeB_false fun p => absurd (yes_of h) (Int.not_lt.2 (p.stands h5).1)) fun h => ?_
      have s1 := no_of h
      refine chk (fun h => nodeB_false fun p => not_of h (p.stands h5).2) fun h => ?_
      have s2 := of_not h
      exact fin _ _ rfl rfl (fun _ => ⟨Int.not_lt.1 s1, s2⟩)
theorem server_eq (i k : Int) (hk : I64 k) : impl_isServer i k = (decide (1 ≤ k ∧ k ≤ 5) && decide (0 ≤ i ∧ i < k)) := by
  unfold impl_isServer
  simp only [within_eq]
  by_cases h : 1 ≤ k ∧ k ≤ 5
  · rw [wr64' (by omega) (by omega), decide_eq_true h]
    simp only [cond_true, Bool.true_and]
    congr 1
    apply propext
    omega
  · rw [decide_eq_false h]; rfl
theorem chk2 {c b : Bool} {rest : Option Bool} (h1 : c = true → b = false) (h2 : c = false → rest = some b) : (bif c then some false else rest) = some b := chk h1 h2
theorem wrap_pred (k : Int) (h1 : 1 ≤ k) (h5 : k ≤ 5) : IntKind.i64.wrap (k - 1) = k - 1 := wr64' (by omega) (by omega)
theorem impl_NodeOk_eq {n : V} (hn : W_Node n) (k : Int) (hk : I64 k) : impl_NodeOk (n_impl_Node n) k = some (nodeB n k) := by
  unfold impl_NodeOk
  simp only [server_eq _ k hk, within_eq, fuel_eq, show n_impl_Node (n_impl_Node n) = n_impl_Node n from rfl]
  refine chk (fun h => nodeB_false fun p => ?_) fun h => ?_
  · have a : decide (1 ≤ k ∧ k ≤ 5) = true := decide_eq_true ⟨p.k1, p.k5⟩
    have b : decide (0 ≤ gi (n_impl_Node n) 0 ∧ gi (n_impl_Node n) 0 < k) = true := decide_eq_true ⟨p.id0, p.idk⟩
    rw [a, b] at h; cases h
  simp only [Bool.not_eq_false', Bool.and_eq_true, decide_eq_true_eq] at h
  obtain ⟨⟨k1, k5⟩, id0, idk⟩ := h
  rw [wrap_pred k k1 k5]
  refine chk (fun h => nodeB_false fun p => not_of h ⟨p.term0, p.term1⟩) fun h => ?_
  have term := of_not h
  refine chk (fun h => nodeB_false fun p => not_of h ⟨p.vote0, by have := p.votek; show gi n 2 ≤ k - 1; omega⟩) fun h => ?_
  have vote := of_not h
  refine chk (fun h => nodeB_false fun p => not_of h ⟨p.lead0, by have := p.leadk; show gi n 6 ≤ k - 1; omega⟩) fun h => ?_
  have lead := of_not h
  refine chk (fun h => nodeB_false fun p => absurd (yes_of h) (Int.not_lt.2 p.len)) fun h => ?_
  have len := no_of h
  clear h
  have hlen : (gl n 3).length ≤ 400 := by
    have : ¬ (400 : Int) < ((gl n 3).length : Int) := len
    omega
  have vote : -1 ≤ gi n 2 ∧ gi n 2 ≤ k - 1 := vote
  have lead : -1 ≤ gi n 6 ∧ gi n 6 ≤ k - 1 := lead
  rw [show gl (n_impl_Node n) 3 = gl n 3 from rfl, impl_log_run hn k]
  cases hit : (List.range (gl n 3).length).all (logB n) with
  | false => exact (congrArg some (nodeB_false fun p => by rw [p.items] at hit; cases hit)).symm
  | true =>
    simp only [cond_true, Option.bind_some, show Nat.beq 1 0 = false from rfl, cond_false]
    rw [show gl (n_impl_Node n) 3 = gl n 3 from rfl, show gl (n_impl_Node n) 8 = gl n 8 from rfl, show gl (n_impl_Node n) 9 = gl n 9 from rfl, show gl (n_impl_Node n) 10 = gl n 10 from rfl, show gi (n_impl_Node n) 4 = gi n 4 from rfl, show gi (n_impl_Node n) 5 = gi n 5 from rfl, show gi (n_impl_Node n) 7 = gi n 7 from rfl,
      show gi (n_impl_Node n) 1 = gi n 1 from rfl, show gi (n_impl_Node n) 2 = gi n 2 from rfl, show gi (n_impl_Node n) 0 = gi n 0 from rfl, show gi (n_impl_Node n) 6 = gi n 6 from rfl, show n_impl_Node (n_impl_Node n) = n_impl_Node n from rfl]
    refine chk (fun h => nodeB_false fun p => not_of h ⟨p.com0, p.com1⟩) fun h => ?_
    have com := of_not h
    refine chk (fun h => nodeB_false fun p => not_of h ⟨p.role0, p.role2⟩) fun h => ?_
    have role := of_not h
    refine chk (fun h => nodeB_false fun p => not_of h ⟨p.wait0, p.wait1⟩) fun h => ?_
    have wait := of_not h
    refine chk (fun h => nodeB_false fun p => not_of h p.lvotes) fun h => ?_
    have l8 := of_not h
    refine chk (fun h => nodeB_false fun p => not_of h p.lnext) fun h => ?_
    have l9 := of_not h
    refine chk (fun h => nodeB_false fun p => not_of h p.lmatch) fun h => ?_
    have l10 := of_not h
    clear h
    have hcell := impl_cell_run hn (N := (gl n 8).length) rfl (by omega) (by omega) hlen
    rw [l8] at hcell
    rw [show (k - 0).toNat + 1 = (gl n 8).length + 1 from by omega, hcell, contains_eq hn.2.2.2.2.2.2.2.2.1.1]
    have fin : (gi n 5 = 0 → (List.range (gl n 8).length).all (fun i => !gb (rd (gl n 8) i) 0) = true) → (gi n 5 ≠ 0 → 1 ≤ gi n 1 ∧ gi n 2 = gi n 0) → (gi n 5 = 2 → gi n 6 = gi n 0) →
        (Option.bind (bif (List.range (gl n 8).length).all (cellB n) then some (1, false) else some (0, false)) fun r51 : Nat × Bool => bif (Nat.beq r51.1 0) then some r51.2 else some true) = some (nodeB n k) := by
      intro hv hst hld
      cases hc : (List.range (gl n 8).length).all (cellB n) with
      | false => exact (congrArg some (nodeB_false fun p => by have := p.cells; rw [show (gl n 9).length = (gl n 8).length from by omega, hc] at this; cases this)).symm
      | true =>
        have hcells : (List.range (gl n 9).length).all (cellB n) = true := by rw [show (gl n 9).length = (gl n 8).length from by omega]; exact hc
        have hvotes : (List.range (gl n 8).length).all (voteB n) = true := by
          by_cases h5 : gi n 5 = 0
          · rw [← hv h5]; congr 1; funext i; simp [voteB, h5]
          · rw [List.all_eq_true]; intro i _; simp [voteB, h5]
        refine (congrArg some (decide_eq_true ?_)).symm
        exact { k1 := k1, k5 := k5, id0 := id0, idk := idk, term0 := term.1, term1 := term.2, vote0 := vote.1, votek := (by omega), lead0 := lead.1, leadk := (by omega),
                    len := (by omega), com0 := com.1, com1 := com.2, role0 := role.1, role2 := role.2, wait0 := wait.1, wait1 := wait.2,
                    lvotes := l8, lnext := l9, lmatch := l10, items := hit, cells := hcells, votes := hvotes, stands := hst, leads := hld }
    by_cases h5 : gi n 5 = 0
    · simp only [h5, decide_true, Bool.not_true, cond_false, cond_true, Option.bind_some]
      refine chk (fun h => nodeB_false fun p => ?_) fun h => ?_
      · have := p.votes
        have e : (List.range (gl n 8).length).all (voteB n) = (List.range (gl n 8).length).all (fun i => !gb (rd (gl n 8) i) 0) := by congr 1; funext i; simp [voteB, h5]
        rw [e] at this; rw [this] at h; cases h
      · simp only [show decide ((0 : Int) = 2) = false from rfl, cond_false]
        exact fin (fun _ => by simpa using h) (fun h => absurd h5 h) (fun h => by omega)
    · simp only [h5, decide_false, Bool.not_false, cond_true, cond_false]
      refine chk (fun h => nodeB_false fun p => absurd (yes_of h) (Int.not_lt.2 (p.stands h5).1)) fun h => ?_
      have s1 := no_of h
      refine chk (fun h => nodeB_false fun p => not_of h (p.stands h5).2) fun h => ?_
      have s2 := of_not h
      by_cases h2 : gi n 5 = 2
      · simp only [h2, decide_true, cond_true]
        refine chk (fun h => nodeB_false fun p => not_of h (p.leads h2)) fun h => ?_
        exact fin (fun h => absurd h h5) (fun _ => ⟨Int.not_lt.1 s1, s2⟩) (fun _ => of_not h)
      · simp only [h2, decide_false, cond_false]
        exact fin (fun h => absurd h h5) (fun _ => ⟨Int.not_lt.1 s1, s2⟩) (fun h => absurd h h2)
end Go.Eng.R
open Go Go.Eng
namespace Go.Eng.R
theorem app_loop {F : Nat → List V → Int → Option (List V)} {a : List V} {f : V → V}
    (h1 : ∀ m (i : Nat) r, i < a.length → r.length = i → F (m + 1) r (i : Int) = F m (r ++ [f (rd a i)]) ((i + 1 : Nat) : Int)) (h0 : ∀ m r, F (m + 1) r (a.length : Int) = some r) : F (a.length + 1) [] 0 = some (a.map f) := by
  refine loop_run0 (F := F) (n := a.length) (fun i r => r = (a.take i).map f) (fun o => o = some (a.map f)) ?_ ?_ (by simp)
  · intro m i s hi hI
    refine .inl ⟨_, h1 m i s hi (by rw [hI]; simp; omega), ?_⟩
    have : a[i]? = some (rd a i) := by simp [rd, List.getD, hi]
    rw [hI, List.take_add_one, this]; simp
  · intro m s hI
    rw [h0, hI, List.take_length]
theorem roomyB {n b : Nat} (h : n * b ≤ 140737488355328) (h1 : n ≤ 9223372036854775807) : (roomy n b && true) = true := by rw [roomy_of h h1]; rfl
theorem z_item_le {l : List V} {B : Nat} (h : zS z_Item l ≤ B) : l.length ≤ B ∧ ∀ i, i < l.length → (gl (rd l i) 4).length ≤ B ∧ (gl (rd l i) 5).length ≤ B := by
  refine ⟨by simp only [zS] at h; omega, fun i hi => ?_⟩
  have h1 := sum_take_succ z_Item hi
  have h2 := sumL_take_le z_Item l (i + 1)
  simp only [zS] at h
  have h3 : z_Item (rd l i) = zS z0 (gl (rd l i) 4) + zS z0 (gl (rd l i) 5) := rfl
  rw [zS_z0, zS_z0] at h3
  omega
theorem spec_ownItems_eq {l : List V} (hl : LW W_Item l) (hz : zS z_Item l ≤ 4000000) : spec_l3ownItems l = some (l.map n_laws_Item) := by
  obtain ⟨z1, z2⟩ := z_item_le hz
  unfold spec_l3ownItems
  rw [fuel_eq, app_loop (F := fun m r i => spec_l3ownItems_l3 m l i r) (f := n_laws_Item) ?_ ?_]
  · rfl
  · intro m i r hi hr
    have h1 := z2 i hi
    simp only [spec_l3ownItems_l3, lt_nat hi, idxOk_nat hi, Int.toNat_natCast, cond_true, spec_l3ownItem, show gl (n_laws_Item (rd l i)) 4 = gl (rd l i) 4 from rfl, show gl (n_laws_Item (rd l i)) 5 = gl (rd l i) 5 from rfl]
    rw [roomyB (n := 0 + (gl (rd l i) 4).length) (by omega) (by omega), roomyB (n := 0 + (gl (rd l i) 5).length) (by omega) (by omega), roomyB (n := r.length + 1) (by omega) (by omega)]
    simp only [cond_true, Option.bind_some, wr_succ hi hl.1]
    rfl
  · intro m r; simp only [spec_l3ownItems_l3, lt_self, cond_false]
theorem impl_clone_eq {l : List V} (h : l.length ≤ 4000000) : slices_Clone_byte l = some l := by
  unfold slices_Clone_byte
  rw [roomyB (by omega) (by omega)]; rfl
theorem impl_ownItems_eq {l : List V} (hl : LW W_Item l) (hz : zS z_Item l ≤ 4000000) : impl_ownItems l = some (l.map n_laws_Item) := by
  obtain ⟨z1, z2⟩ := z_item_le hz
  unfold impl_ownItems
  rw [fuel_eq, app_loop (F := fun m r i => impl_ownItems_l3 m l (l.length : Int) i r) (f := n_laws_Item) ?_ ?_]
  · rfl
  · intro m i r hi hr
    have h1 := z2 i hi
    simp only [impl_ownItems_l3, lt_nat hi, idxOk_nat hi, Int.toNat_natCast, cond_true, impl_Cmd_own, impl_Op_own, gl_c0, gl_cs, gi_c0, gi_cs, impl_clone_eq h1.1, impl_clone_eq h1.2, Option.bind_some]
    rw [roomyB (n := r.length + 1) (by omega) (by omega)]
    simp only [cond_true, wr_succ hi hl.1]
    rfl
  · intro m r; simp only [impl_ownItems_l3, lt_self, cond_false]
def zeroN : V := V.agg [(V.int .i64 0), (V.int .i64 0), (V.int .i64 0), (V.inl t_impl_Item []), (V.int .i64 0), (V.int .i64 0), (V.int .i64 0), (V.int .i64 0), (V.inl t_bool []), (V.inl t_int' []), (V.inl t_int' [])]
theorem I64_lit {n : Int} (h : -9223372036854775808 ≤ n) (h' : n ≤ 9223372036854775807) : I64 n := ⟨h, h'⟩
theorem I64_0 : I64 0 := ⟨by decide, by decide⟩
theorem I64_m1 : I64 (-1) := ⟨by decide, by decide⟩
theorem zeroN_W : W_Node zeroN := ⟨⟨by decide, by decide⟩, ⟨by decide, by decide⟩, ⟨by decide, by decide⟩, LW.nil, ⟨by decide, by decide⟩, ⟨by decide, by decide⟩, ⟨by decide, by decide⟩, ⟨by decide, by decide⟩, LW.nil, LW.nil, LW.nil⟩
theorem LW_rep {w : V → Prop} {x : V} {k : Nat} (h : w x) (hk : k ≤ 9223372036854775807) : LW w (List.replicate k x) := ⟨by simpa using hk, fun y hy => by rw [List.eq_of_mem_replicate hy]; exact h⟩
end Go.Eng.R
open Go Go.Eng
namespace Go.Eng.R
def termN (n : V) (p : Nat) : Int := bif decide (1 ≤ p ∧ p ≤ (gl n 3).length) then gi (rd (gl n 3) (p - 1)) 0 else 0
theorem impl_termAt_eq {n : V} {p : Nat} (hl : (gl n 3).length ≤ 9223372036854775807) (hp : p ≤ 9223372036854775807) : impl_Node_termAt (n_impl_Node n) (p : Int) = some (termN n p) := by
  unfold impl_Node_termAt termN
  rw [show gl (n_impl_Node n) 3 = gl n 3 from rfl, within_eq]
  by_cases h : 1 ≤ p ∧ p ≤ (gl n 3).length
  · rw [decide_eq_true (p := (1 : Int) ≤ (p : Int) ∧ (p : Int) ≤ ((gl n 3).length : Int)) (by omega), decide_eq_true h, wr64' (by omega) (by omega), show ((p : Int) - 1) = ((p - 1 : Nat) : Int) from by omega, idxOk_nat (by omega), Int.toNat_natCast]
    rfl
  · rw [decide_eq_false (p := (1 : Int) ≤ (p : Int) ∧ (p : Int) ≤ ((gl n 3).length : Int)) (by omega), decide_eq_false h]
    rfl
theorem spec_termAt_eq {n : V} {p : Nat} (hl : (gl n 3).length ≤ 9223372036854775807) (hp : p ≤ 9223372036854775807) : spec_l4termAt (n_impl_Node n) (p : Int) = some (termN n p) := by
  unfold spec_l4termAt termN
  rw [show gl (n_impl_Node n) 3 = gl n 3 from rfl]
  by_cases h1 : 1 ≤ p
  · by_cases h2 : p ≤ (gl n 3).length
    · rw [decide_eq_false (p := (p : Int) < 1) (by omega), decide_eq_false (p := ((gl n 3).length : Int) < (p : Int)) (by omega), decide_eq_true (p := 1 ≤ p ∧ p ≤ (gl n 3).length) ⟨h1, h2⟩, wr64' (by omega) (by omega), show ((p : Int) - 1) = ((p - 1 : Nat) : Int) from by omega, idxOk_nat (by omega), Int.toNat_natCast]
      rfl
    · rw [decide_eq_false (p := (p : Int) < 1) (by omega), decide_eq_true (p := ((gl n 3).length : Int) < (p : Int)) (by omega), decide_eq_false (p := 1 ≤ p ∧ p ≤ (gl n 3).length) (by omega)]
      rfl
  · rw [decide_eq_true (p := (p : Int) < 1) (by omega), decide_eq_false (p := 1 ≤ p ∧ p ≤ (gl n 3).length) (by omega)]
    rfl
def itemsN (n : V) (p : Nat) : List V := (((gl n 3).drop p).take 4).map n_laws_Item
def prevN (n : V) (to : Nat) : Nat := (gi (rd (gl n 9) to) 0 - 1).toNat
def addN (n : V) (to : Nat) : V :=
  V.agg [(V.int .i64 2), (V.int .i64 (gi n 0)), (V.int .i64 (to : Int)), (V.int .i64 (gi n 1)), (V.int .i64 ((prevN n to : Nat) : Int)), (V.int .i64 (termN n (prevN n to))), (V.inl t_impl_Item (itemsN n (prevN n to))), (V.int .i64 (gi n 4)), (V.bool false)]
structure NextOk (n : V) (to : Nat) : Prop where
  lt : to < (gl n 9).length
  lo : 1 ≤ gi (rd (gl n 9) to) 0
  hi : gi (rd (gl n 9) to) 0 ≤ ((gl n 3).length : Int) + 1
  len : (gl n 3).length ≤ 401
theorem take_rd {l : List V} {i : Nat} (h : i < l.length) : l.take (i + 1) = l.take i ++ [rd l i] := by
  rw [List.take_add_one]
  have : l[i]? = some (rd l i) := by simp [rd, List.getD, h]
  rw [this]; rfl
theorem rd_drop (l : List V) (p i : Nat) : rd (l.drop p) i = rd l (p + i) := by simp [rd, List.getD]
theorem sumL_drop_le (c : V → Nat) (l : List V) (i : Nat) : sumL c (l.drop i) ≤ sumL c l := by
  have : sumL c l = sumL c (l.take i) + sumL c (l.drop i) := by rw [← sumL_append, List.take_append_drop]
  omega
theorem zS_sub (z : V → Nat) (l : List V) (p k : Nat) : zS z ((l.drop p).take k) ≤ zS z l := by
  have h1 := sumL_take_le z (l.drop p) k
  have h2 := sumL_drop_le z l p
  simp only [zS, List.length_take, List.length_drop]; omega
theorem LW_sub {w : V → Prop} {l : List V} (h : LW w l) (p k : Nat) : LW w ((l.drop p).take k) :=
  ⟨by have := h.1; simp only [List.length_take, List.length_drop]; omega, fun x hx => h.2 x (List.mem_of_mem_drop (List.mem_of_mem_take hx))⟩
theorem impl_entries_eq {n : V} (hn : W_Node n) (hz : zS z_Item (gl n 3) ≤ 4000000) {to : Nat} (h : NextOk n to) : impl_Node_entries (n_impl_Node n) (to : Int) = some (addN n to) := by
  obtain ⟨h1, h2, h3, h4⟩ := h
  have hp : gi (rd (gl n 9) to) 0 - 1 = ((prevN n to : Nat) : Int) := by unfold prevN; omega
  have hpl : prevN n to ≤ (gl n 3).length := by unfold prevN; omega
  unfold impl_Node_entries
  simp only [show gl (n_impl_Node n) 9 = gl n 9 from rfl, show gl (n_impl_Node n) 3 = gl n 3 from rfl, idxOk_nat h1, Int.toNat_natCast, cond_true, show n_impl_Node (n_impl_Node n) = n_impl_Node n from rfl]
  rw [wr64' (n := gi (rd (gl n 9) to) 0 - 1) (by omega) (by omega), hp, wr64' (n := ((prevN n to : Nat) : Int) + 4) (by omega) (by omega), impl_termAt_eq (by omega) (by omega)]
  have hm : mnI ((gl n 3).length : Int) (((prevN n to : Nat) : Int) + 4) = ((min (gl n 3).length (prevN n to + 4) : Nat) : Int) := by
    unfold mnI; split <;> omega
  rw [hm, decide_eq_true (p := (0 : Int) ≤ ((min (gl n 3).length (prevN n to + 4) : Nat) : Int)) (by omega), decide_eq_true (p := ((min (gl n 3).length (prevN n to + 4) : Nat) : Int) ≤ ((gl n 3).length : Int)) (by omega)]
  simp only [Bool.and_self, cond_true, Int.toNat_natCast, Option.bind_some]
  rw [decide_eq_true (p := (0 : Int) ≤ ((prevN n to : Nat) : Int)) (by omega), decide_eq_true (p := ((prevN n to : Nat) : Int) ≤ ((min (gl n 3).length (prevN n to + 4) : Nat) : Int)) (by omega)]
  simp only [Bool.and_self, cond_true]
  have htk : ((gl n 3).drop (prevN n to)).take (min (gl n 3).length (prevN n to + 4) - prevN n to) = ((gl n 3).drop (prevN n to)).take 4 := by
    rw [List.take_eq_take_iff]; simp; omega
  have hzz := zS_sub z_Item (gl n 3) (prevN n to) 4
  rw [htk, impl_ownItems_eq (LW_sub hn.2.2.2.1 _ _) (by omega)]
  rfl
end Go.Eng.R
open Go Go.Eng
namespace Go.Eng.R
def othersN (id : Int) (N : Nat) : List V := ((List.range N).filter fun i : Nat => !decide ((i : Int) = id)).map fun i : Nat => V.int .i64 (i : Int)
theorem othersN_succ (id : Int) (N : Nat) : othersN id (N + 1) = othersN id N ++ (bif decide ((N : Int) = id) then [] else [V.int .i64 (N : Int)]) := by
  unfold othersN
  rw [List.range_succ, List.filter_append, List.map_append]
  congr 1
  by_cases h : (N : Int) = id <;> simp [h]
theorem othersN_len (id : Int) (N : Nat) : (othersN id N).length ≤ N := by
  unfold othersN
  rw [List.length_map]
  exact Nat.le_trans (List.length_filter_le _ _) (by simp)
theorem impl_others_eq {n : V} (h8 : (gl n 8).length ≤ 1000) : impl_Node_others (n_impl_Node n) = some (othersN (gi n 0) (gl n 8).length) := by
  unfold impl_Node_others
  rw [show gl (n_impl_Node n) 8 = gl n 8 from rfl, fuel_eq]
  have key := loop_run0 (F := fun m r i => impl_Node_others_l3 m ((gl n 8).length : Int) i (n_impl_Node n) r) (n := (gl n 8).length) (fun i r => r = othersN (gi n 0) i) (fun o => o = some (othersN (gi n 0) (gl n 8).length)) ?_ ?_ (s := []) rfl
  · have key : impl_Node_others_l3 _ _ _ _ _ = _ := key
    show Option.bind (impl_Node_others_l3 _ _ _ (n_impl_Node n) _) _ = _
    rw [key]; rfl
  · intro m i r hi hI
    have hrl : r.length ≤ i := by rw [hI]; exact othersN_len _ _
    refine .inl ⟨othersN (gi n 0) (i + 1), ?_, rfl⟩
    show impl_Node_others_l3 (m + 1) _ _ (n_impl_Node n) _ = _
    rw [impl_Node_others_l3, othersN_succ, ← hI]
    simp only [lt_nat hi, cond_true, show gi (n_impl_Node n) 0 = gi n 0 from rfl, wr_succ hi (show (gl n 8).length ≤ 9223372036854775807 by omega)]
    rw [roomyB (n := r.length + 1) (by omega) (by omega)]
    by_cases h : (i : Int) = gi n 0
    · simp only [h, decide_true, Bool.not_true, cond_false, cond_true, List.append_nil]; rfl
    · simp only [h, decide_false, Bool.not_false, cond_false, cond_true]; rfl
  · intro m r hI
    show impl_Node_others_l3 (m + 1) _ _ (n_impl_Node n) _ = _
    rw [impl_Node_others_l3, lt_self, hI]; rfl
def ownM (m : V) : V := V.agg [(V.int .i64 (gi m 0)), (V.int .i64 (gi m 1)), (V.int .i64 (gi m 2)), (V.int .i64 (gi m 3)), (V.int .i64 (gi m 4)), (V.int .i64 (gi m 5)), (V.inl t_impl_Item ((gl m 6).map n_laws_Item)), (V.int .i64 (gi m 7)), (V.bool (gb m 8))]
theorem spec_ownMsgs_eq {l : List V} (hl : l.length ≤ 1000000) (hw : ∀ m ∈ l, LW W_Item (gl m 6) ∧ zS z_Item (gl m 6) ≤ 4000000) : spec_l4ownMsgs l = some (l.map ownM) := by
  unfold spec_l4ownMsgs
  rw [fuel_eq, app_loop (F := fun m r i => spec_l4ownMsgs_l3 m l i r) (f := ownM) ?_ ?_]
  · rfl
  · intro m i r hi hr
    have hmem : rd l i ∈ l := by
      have : rd l i = l[i] := by simp [rd, List.getD, hi]
      rw [this]; exact List.getElem_mem hi
    obtain ⟨h1, h2⟩ := hw _ hmem
    simp only [spec_l4ownMsgs_l3, lt_nat hi, idxOk_nat hi, Int.toNat_natCast, cond_true, spec_ownItems_eq h1 h2, Option.bind_some]
    rw [roomyB (n := r.length + 1) (by omega) (by omega)]
    simp only [cond_true, wr_succ hi (show l.length ≤ 9223372036854775807 by omega)]
    rfl
  · intro m r; simp only [spec_l4ownMsgs_l3, lt_self, cond_false]
def zeroM : V := V.agg [(V.int .i64 0), (V.int .i64 0), (V.int .i64 0), (V.int .i64 0), (V.int .i64 0), (V.int .i64 0), (V.inl t_impl_Item []), (V.int .i64 0), (V.bool false)]
theorem zeroM_W : W_Msg zeroM := ⟨I64_0, I64_0, I64_0, I64_0, I64_0, I64_0, LW.nil, I64_0, trivial⟩
theorem ownM_addN (n : V) (to : Nat) : ownM (addN n to) = addN n to := by
  have : (itemsN n (prevN n to)).map n_laws_Item = itemsN n (prevN n to) := by
    unfold itemsN; rw [List.map_map]; rfl
  show V.agg [_, _, _, _, _, _, V.inl _ ((itemsN n (prevN n to)).map n_laws_Item), _, _] = _
  rw [this]; rfl
theorem itemsN_W {n : V} (hn : W_Node n) (p : Nat) : LW W_Item (itemsN n p) := LW.map (h := n_laws_Item) (fun x hx => hx) (LW_sub hn.2.2.2.1 _ _)
theorem itemsN_z {n : V} (p : Nat) : zS z_Item (itemsN n p) ≤ zS z_Item (gl n 3) := by
  unfold itemsN
  rw [zS_map (f := z_Item) (g := z_Item) (h := n_laws_Item) (fun x => rfl)]
  exact zS_sub _ _ _ _
theorem termN_I64 {n : V} (hn : W_Node n) (p : Nat) : I64 (termN n p) := by
  unfold termN
  by_cases h : 1 ≤ p ∧ p ≤ (gl n 3).length
  · rw [decide_eq_true h]
    exact (hn.2.2.2.1.rd (i := p - 1) (by omega)).1
  · rw [decide_eq_false h]; exact I64_0
theorem addN_W {n : V} (hn : W_Node n) {to : Nat} (h : NextOk n to) (ht : to ≤ 1000000) : W_Msg (addN n to) := by
  have := h.hi; have := h.len
  refine ⟨(show I64 2 from ⟨by decide, by decide⟩), hn.1, ⟨by show (-9223372036854775808 : Int) ≤ (to : Int); omega, by show ((to : Int)) ≤ 9223372036854775807; omega⟩, hn.2.1, ?_, termN_I64 hn _, itemsN_W hn _, hn.2.2.2.2.1, trivial⟩
  constructor
  · show (-9223372036854775808 : Int) ≤ ((prevN n to : Nat) : Int); omega
  · show (((prevN n to : Nat)) : Int) ≤ 9223372036854775807
    unfold prevN; omega
theorem addN_ct {n : V} {to : Nat} (hz : zS z_Item (gl n 3) ≤ 4000000) : ct_Msg (addN n to) ≤ 100000000 := by
  have h1 := itemsN_z (n := n) (prevN n to)
  have h2 : sumL c_Item (itemsN n (prevN n to)) ≤ 5 * zS z_Item (itemsN n (prevN n to)) := sumL_mul 5 fun y _ => c_Item_cz y
  show sumL c_Item (itemsN n (prevN n to)) ≤ _
  omega
theorem nextOk_of {n : V} {k : Int} (hp : NodeP n k) (h2 : gi n 5 = 2) {to : Nat} (ht : (to : Int) < k) : NextOk n to := by
  have hlen := hp.lnext
  have hto : to < (gl n 9).length := by omega
  have := List.all_eq_true.1 hp.cells to (List.mem_range.2 hto)
  simp only [cellB, h2, decide_true, cond_true, Bool.and_eq_true, decide_eq_true_eq] at this
  exact ⟨hto, this.1.1, this.1.2, by have := hp.len; omega⟩
end Go.Eng.R
open Go Go.Eng
namespace Go.Eng.R
structure ND where
  id : Int
  term : Int
  vote : Int
  log : List V
  commit : Int
  role : Int
  lead : Int
  wait : Int
  votes : List V
  next : List V
  mtch : List V
def ND.v (s : ND) : V := V.agg [(V.int .i64 s.id), (V.int .i64 s.term), (V.int .i64 s.vote), (V.inl t_impl_Item s.log), (V.int .i64 s.commit), (V.int .i64 s.role), (V.int .i64 s.lead), (V.int .i64 s.wait), (V.inl t_bool s.votes), (V.inl t_int' s.next), (V.inl t_int' s.mtch)]
def ND.sv (s : ND) (out : List V) : V := V.agg [(V.int .i64 s.id), (V.int .i64 s.term), (V.int .i64 s.vote), (V.inl t_impl_Item s.log), (V.int .i64 s.commit), (V.int .i64 s.role), (V.int .i64 s.lead), (V.int .i64 s.wait), (V.inl t_bool s.votes), (V.inl t_int' s.next), (V.inl t_int' s.mtch), (V.inl t_impl_Msg out)]
def ND.of (n : V) : ND := ⟨gi n 0, gi n 1, gi n 2, gl n 3, gi n 4, gi n 5, gi n 6, gi n 7, gl n 8, gl n 9, gl n 10⟩
theorem ND.of_v (n : V) : (ND.of n).v = n_impl_Node n := rfl
def ND.b (s : ND) (a b c d e : Nat) : V := V.agg [(V.int .i64 s.id), (V.int .i64 s.term), (V.int .i64 s.vote), (V.sl a t_impl_Item 0 none), (V.int .i64 s.commit), (V.int .i64 s.role), (V.int .i64 s.lead), (V.int .i64 s.wait), (V.sl b t_bool 0 none), (V.sl c t_int' 0 none), (V.sl d t_int' 0 none), (V.sl e t_impl_Msg 0 none)]
def ND.c (s : ND) (a b c d : Nat) : V := V.agg [(V.int .i64 s.id), (V.int .i64 s.term), (V.int .i64 s.vote), (V.sl a t_impl_Item 0 none), (V.int .i64 s.commit), (V.int .i64 s.role), (V.int .i64 s.lead), (V.int .i64 s.wait), (V.sl b t_bool 0 none), (V.sl c t_int' 0 none), (V.sl d t_int' 0 none)]
def cntGe (p : Int) : List V → Nat
  | [] => 0
  | x :: l => (bif decide (p ≤ gi x 0) then 1 else 0) + cntGe p l
theorem cntGe_append (p : Int) (a b : List V) : cntGe p (a ++ b) = cntGe p a + cntGe p b := by induction a <;> simp_all [cntGe]; omega
theorem cntGe_succ (p : Int) {l : List V} {i : Nat} (h : i < l.length) : cntGe p (l.take (i + 1)) = cntGe p (l.take i) + (bif decide (p ≤ gi (rd l i) 0) then 1 else 0) := by
  rw [take_rd h, cntGe_append]; simp [cntGe]
theorem cntGe_le (p : Int) (l : List V) : cntGe p l ≤ l.length := by
  induction l with
  | nil => simp [cntGe]
  | cons x l ih => simp only [cntGe, List.length_cons]; cases decide (p ≤ gi x 0) <;> simp <;> omega
def termL (log : List V) (p : Nat) : Int := bif decide (1 ≤ p ∧ p ≤ log.length) then gi (rd log (p - 1)) 0 else 0
def scanC (s : ND) (c : Nat) : Nat → Nat
  | 0 => c
  | j + 1 => bif decide (termL s.log (c + (j + 1)) = s.term) && decide ((s.votes.length : Int) < 2 * ((cntGe (((c + (j + 1) : Nat)) : Int) s.mtch : Nat) : Int)) then c + (j + 1) else scanC s c j
def ND.mark (s : ND) : ND := { s with next := s.next.set s.id.toNat (V.int .i64 (((s.log.length : Nat) : Int) + 1)), mtch := s.mtch.set s.id.toNat (V.int .i64 ((s.log.length : Nat) : Int)) }
def ND.adv (s : ND) : ND := { s.mark with commit := ((scanC s.mark s.commit.toNat (s.log.length - s.commit.toNat) : Nat) : Int) }
def msgsN (n : V) (N : Nat) : List V := ((List.range N).filter fun i : Nat => !decide ((i : Int) = gi n 0)).map (addN n)
theorem msgsN_succ (n : V) (N : Nat) : msgsN n (N + 1) = msgsN n N ++ (bif decide ((N : Int) = gi n 0) then [] else [addN n N]) := by
  unfold msgsN
  rw [List.range_succ, List.filter_append, List.map_append]
  congr 1
  by_cases h : (N : Int) = gi n 0 <;> simp [h]
theorem msgsN_len (n : V) (N : Nat) : (msgsN n N).length ≤ N := by
  unfold msgsN
  rw [List.length_map]
  exact Nat.le_trans (List.length_filter_le _ _) (by simp)
theorem impl_adv_count {s : ND} {out : List V} (hl : s.mtch.length ≤ 1000) (place : Int) : impl_server_advance_l6 (s.mtch.length + 1) place 0 (s.mtch.length : Int) 0 (s.b 2 3 4 1 5) s.mtch s.log s.votes s.next out =
    some (place, ((cntGe place s.mtch : Nat) : Int), s.b 1 2 3 4 5, s.log, s.votes, s.next, s.mtch, out) := by
  refine loop_run0 (F := fun m c i => impl_server_advance_l6 m place c (s.mtch.length : Int) i (s.b 2 3 4 1 5) s.mtch s.log s.votes s.next out) (n := s.mtch.length) (fun i c => c = ((cntGe place (s.mtch.take i) : Nat) : Int)) (fun o => o = some (place, ((cntGe place s.mtch : Nat) : Int), s.b 1 2 3 4 5, s.log, s.votes, s.next, s.mtch, out)) ?_ ?_ (by simp [cntGe])
  · intro m i c hi hI
    have hle := cntGe_le place (s.mtch.take i)
    simp only [List.length_take] at hle
    refine .inl ⟨_, ?_, (cntGe_succ place hi ▸ rfl : ((cntGe place (s.mtch.take (i + 1)) : Nat) : Int) = ((cntGe place (s.mtch.take (i + 1)) : Nat) : Int))⟩
    show impl_server_advance_l6 (m + 1) place c _ (i : Int) _ _ _ _ _ _ = _
    rw [impl_server_advance_l6, cntGe_succ place hi]
    simp only [lt_nat hi, idxOk_nat hi, Int.toNat_natCast, Nat.zero_add, cond_true, wr_succ hi (show s.mtch.length ≤ 9223372036854775807 by omega)]
    by_cases h : place ≤ gi (rd s.mtch i) 0
    · simp only [h, decide_true, cond_true]
      rw [wr64' (by omega) (by omega), hI, show ((cntGe place (s.mtch.take i) : Nat) : Int) + 1 = ((cntGe place (s.mtch.take i) + 1 : Nat) : Int) from by omega]
      rfl
    · simp only [h, decide_false, cond_false, Nat.add_zero]
      rw [hI]; rfl
  · intro m c hI
    rw [List.take_length] at hI
    show impl_server_advance_l6 (m + 1) place c _ _ _ _ _ _ _ _ = _
    rw [impl_server_advance_l6, lt_self, hI]; rfl
theorem impl_adv_run {s : ND} {out : List V} {c : Nat} (hc : s.commit = (c : Int)) (hm : s.mtch.length ≤ 1000) (hv : s.votes.length = s.mtch.length) (hL : s.log.length ≤ 1000) :
    ∀ j m, j < m → c + j ≤ s.log.length → ∃ ix, impl_server_advance_l2 m ((c + j : Nat) : Int) (s.b 1 2 3 4 5) s.log s.votes s.next s.mtch out = some (ix, ({ s with commit := ((scanC s c j : Nat) : Int) } : ND).b 1 2 3 4 5, s.log, s.votes, s.next, s.mtch, out)
  | _, 0, h, _ => by omega
  | 0, m + 1, _, _ => by
    refine ⟨1, ?_⟩
    rw [impl_server_advance_l2]
    simp only [ND.b, gi_c0, gi_cs, scanC, ← hc, Nat.add_zero]
    simp only [Int.lt_irrefl, decide_false, cond_false]
    try rfl
  | j + 1, m + 1, h, hj => by
    obtain ⟨ix, ih⟩ := impl_adv_run (out := out) hc hm hv hL j m (by omega) (by omega)
    have ecnt := impl_adv_count (out := out) hm (((c + (j + 1) : Nat)) : Int)
    have et := impl_termAt_eq (n := s.v) (p := c + (j + 1)) (show s.log.length ≤ _ by omega) (by omega)
    rw [show n_impl_Node s.v = s.v from rfl, show termN s.v (c + (j + 1)) = termL s.log (c + (j + 1)) from rfl] at et
    have hcl := cntGe_le (((c + (j + 1) : Nat)) : Int) s.mtch
    rw [impl_server_advance_l2]
    simp only [ND.b, ND.v, gi_c0, gi_cs, fuel_eq] at ecnt ih et ⊢
    have hlt : s.commit < ((c + (j + 1) : Nat) : Int) := by omega
    simp only [hlt, decide_true, ecnt, cond_true, Option.bind_some, gi_c0, gi_cs, et, impl_Node_most, gl_c0, gl_cs]
    rw [wr64' (n := 2 * ((cntGe (((c + (j + 1) : Nat)) : Int) s.mtch : Nat) : Int)) (by omega) (by omega), wr64' (n := (((c + (j + 1) : Nat)) : Int) - 1) (by omega) (by omega), show (((c + (j + 1) : Nat)) : Int) - 1 = ((c + j : Nat) : Int) from by omega]
    simp only [scanC]
    by_cases h2 : termL s.log (c + (j + 1)) = s.term
    · by_cases h1 : ((s.votes.length : Nat) : Int) < 2 * ((cntGe (((c + (j + 1) : Nat)) : Int) s.mtch : Nat) : Int)
      · simp only [h1, h2, decide_true, cond_true, Bool.and_self]
        exact ⟨0, rfl⟩
      · simp only [h1, h2, decide_true, decide_false, cond_true, cond_false, Bool.and_false]
        exact ⟨ix, ih⟩
    · simp only [h2, decide_false, cond_false, Bool.false_and]
      exact ⟨ix, ih⟩
theorem impl_advance_eq {s : ND} {out : List V} (hi0 : 0 ≤ s.id) (hi : s.id < (s.mtch.length : Int)) (hn : s.next.length = s.mtch.length) (hv : s.votes.length = s.mtch.length) (hm : s.mtch.length ≤ 1000) (hL : s.log.length ≤ 1000) (hc0 : 0 ≤ s.commit) (hc1 : s.commit ≤ (s.log.length : Int)) :
    impl_server_advance (s.sv out) = some (s.adv.sv out) := by
  obtain ⟨c, hc⟩ : ∃ c : Nat, s.commit = (c : Int) := ⟨s.commit.toNat, by omega⟩
  obtain ⟨ix, e⟩ := impl_adv_run (s := s.mark) (out := out) (c := c) hc (by simpa [ND.mark] using hm) (by simpa [ND.mark] using hv) hL (s.log.length - c) (s.log.length - c + 1) (by omega) (by show c + (s.log.length - c) ≤ s.log.length; omega)
  have ei : s.id = ((s.id.toNat : Nat) : Int) := by omega
  unfold impl_server_advance
  rw [show gi (s.sv out) 0 = s.id from rfl, show gl (s.sv out) 10 = s.mtch from rfl, show gl (s.sv out) 9 = s.next from rfl, show gl (s.sv out) 3 = s.log from rfl]
  rw [show idxOk s.id s.mtch.length = true from by rw [ei]; exact idxOk_nat (by omega), show idxOk s.id s.next.length = true from by rw [ei]; exact idxOk_nat (by omega)]
  simp only [cond_true]
  rw [wr64' (n := ((s.log.length : Nat) : Int) + 1) (by omega) (by omega)]
  have e : impl_server_advance_l2 (s.log.length - c + 1) ((c + (s.log.length - c) : Nat) : Int) (s.b 1 2 3 4 5) s.log s.votes (s.next.set (0 + s.id.toNat) (V.int .i64 (((s.log.length : Nat) : Int) + 1))) (s.mtch.set (0 + s.id.toNat) (V.int .i64 ((s.log.length : Nat) : Int))) out = some (ix, ({ s.mark with commit := ((scanC s.mark c (s.log.length - c) : Nat) : Int) } : ND).b 1 2 3 4 5, s.log, s.votes, s.next.set (0 + s.id.toNat) (V.int .i64 (((s.log.length : Nat) : Int) + 1)), s.mtch.set (0 + s.id.toNat) (V.int .i64 ((s.log.length : Nat) : Int)), out) := by
    rw [Nat.zero_add]; exact e
  rw [show ((c + (s.log.length - c) : Nat) : Int) = ((s.log.length : Nat) : Int) from by omega] at e
  have ef : (((s.log.length : Nat) : Int) - s.commit).toNat + 1 = s.log.length - c + 1 := by omega
  have e2 : impl_server_advance_l2 ((((s.log.length : Nat) : Int) - s.commit).toNat + 1) ((s.log.length : Nat) : Int) (s.b 1 2 3 4 5) s.log s.votes (s.next.set (0 + s.id.toNat) (V.int .i64 (((s.log.length : Nat) : Int) + 1))) (s.mtch.set (0 + s.id.toNat) (V.int .i64 ((s.log.length : Nat) : Int))) out = some (ix, ({ s.mark with commit := ((scanC s.mark c (s.log.length - c) : Nat) : Int) } : ND).b 1 2 3 4 5, s.log, s.votes, s.next.set (0 + s.id.toNat) (V.int .i64 (((s.log.length : Nat) : Int) + 1)), s.mtch.set (0 + s.id.toNat) (V.int .i64 ((s.log.length : Nat) : Int)), out) := by rw [ef]; exact e
  have hadv : s.adv = ({ s.mark with commit := ((scanC s.mark c (s.log.length - c) : Nat) : Int) } : ND) := by
    unfold ND.adv
    rw [show s.commit.toNat = c from by omega]
  rw [hadv]
  refine Eq.trans (congrArg (fun o => Option.bind o _) e2) ?_
  simp only [Option.bind_some, Nat.zero_add]
  cases Nat.beq ix 0 <;> rfl
theorem impl_send_eq {s : ND} {out : List V} (hW : W_Node s.v) (hz : zS z_Item s.log ≤ 4000000) {to : Nat} (h : NextOk s.v to) (ho : out.length ≤ 100000) : impl_server_send (s.sv out) (to : Int) = some (s.sv (out ++ [addN s.v to])) := by
  unfold impl_server_send
  rw [show n_impl_Node (s.sv out) = n_impl_Node s.v from rfl, impl_entries_eq hW hz h, show gl (s.sv out) 11 = out from rfl]
  simp only [Option.bind_some]
  rw [roomyB (n := out.length + 1) (by omega) (by omega)]
  rfl
theorem impl_sendAll_eq {s : ND} {out : List V} (hW : W_Node s.v) (hz : zS z_Item s.log ≤ 4000000) (hv : s.votes.length ≤ 1000) (hN : ∀ i, i < s.votes.length → (i : Int) ≠ s.id → NextOk s.v i) (ho : out.length ≤ 1000) :
    impl_server_sendAll (s.sv out) = some (s.sv (out ++ msgsN s.v s.votes.length)) := by
  have hoth := impl_others_eq (n := s.v) (show s.votes.length ≤ 1000 from hv)
  rw [show gi s.v 0 = s.id from rfl, show gl s.v 8 = s.votes from rfl] at hoth
  let L : List Nat := (List.range s.votes.length).filter fun i : Nat => !decide ((i : Int) = s.id)
  have hL : othersN s.id s.votes.length = L.map fun i : Nat => V.int .i64 (i : Int) := rfl
  have hM : msgsN s.v s.votes.length = L.map (addN s.v) := rfl
  have hlen : L.length ≤ 1000 := Nat.le_trans (List.length_filter_le _ _) (by simpa using hv)
  have hmem : ∀ j ∈ L, NextOk s.v j := fun j hj => by
    obtain ⟨h1, h2⟩ := List.mem_filter.1 hj
    exact hN j (List.mem_range.1 h1) (by simpa using h2)
  have key := loop_run0 (F := fun m r i => impl_server_sendAll_l1 m (L.length : Int) i (s.b 2 3 4 5 6) (L.map fun i : Nat => V.int .i64 (i : Int)) s.log s.votes s.next s.mtch r) (n := L.length) (fun i r => r = out ++ (L.take i).map (addN s.v)) (fun o => o = some (s.b 1 2 3 4 5, s.log, s.votes, s.next, s.mtch, out ++ L.map (addN s.v))) ?_ ?_ (s := out) (by simp)
  · unfold impl_server_sendAll
    rw [show n_impl_Node (s.sv out) = n_impl_Node s.v from rfl, hoth, hL, hM]
    simp only [Option.bind_some]
    rw [fuel_eq, List.length_map]
    have key : impl_server_sendAll_l1 (L.length + 1) (L.length : Int) 0 (s.b 2 3 4 5 6) (L.map fun i : Nat => V.int .i64 (i : Int)) s.log s.votes s.next s.mtch out = _ := key
    exact Eq.trans (congrArg (fun o => Option.bind o _) key) rfl
  · intro m i r hi hI
    have hrl : r.length ≤ 2000 := by rw [hI]; simp; omega
    have hrd : rd (L.map fun i : Nat => V.int .i64 (i : Int)) i = V.int .i64 ((L[i] : Nat) : Int) := by simp [rd, List.getD, hi]
    have es := impl_send_eq (out := r) hW hz (to := L[i]) (hmem _ (List.getElem_mem hi)) (by omega)
    refine .inl ⟨r ++ [addN s.v L[i]], ?_, by rw [hI, List.take_add_one, List.getElem?_eq_getElem hi, List.map_append]; simp⟩
    show impl_server_sendAll_l1 (m + 1) _ (i : Int) _ _ _ _ _ _ _ = _
    rw [impl_server_sendAll_l1]
    have es' : impl_server_send (V.agg [(V.int .i64 s.id), (V.int .i64 s.term), (V.int .i64 s.vote), (V.inl t_impl_Item s.log), (V.int .i64 s.commit), (V.int .i64 s.role), (V.int .i64 s.lead), (V.int .i64 s.wait), (V.inl t_bool s.votes), (V.inl t_int' s.next), (V.inl t_int' s.mtch), (V.inl t_impl_Msg r)]) ((L[i] : Nat) : Int) = some (s.sv (r ++ [addN s.v L[i]])) := es
    simp only [ND.b, gi_c0, gi_cs, lt_nat hi, idxOk_nat (show i < (L.map fun i : Nat => V.int .i64 (i : Int)).length by simpa using hi), Int.toNat_natCast, Nat.zero_add, cond_true, hrd, show ∀ (k : IntKind) (x : Int), gi (V.int k x) 0 = x from fun _ _ => rfl, es', Option.bind_some, wr_succ hi (show L.length ≤ 9223372036854775807 by omega)]
    rfl
  · intro m r hI
    rw [List.take_length] at hI
    show impl_server_sendAll_l1 (m + 1) _ _ _ _ _ _ _ _ _ = _
    rw [impl_server_sendAll_l1, lt_self, hI]; rfl
end Go.Eng.R
open Go Go.Eng
namespace Go.Eng.R
theorem spec_l4add_v1_eq {n : V} (hn : W_Node n) {to : Nat} (h : NextOk n to) : spec_l4add_v1 (n_impl_Node n) (to : Int) = some (addN n to, n_impl_Node n) := by
  obtain ⟨h1, h2, h3, h4⟩ := h
  have hp : gi (rd (gl n 9) to) 0 - 1 = ((prevN n to : Nat) : Int) := by unfold prevN; omega
  have hpl : prevN n to ≤ (gl n 3).length := by unfold prevN; omega
  unfold spec_l4add_v1
  simp only [show gl (n_impl_Node n) 9 = gl n 9 from rfl, idxOk_nat h1, Int.toNat_natCast, Nat.zero_add, cond_true, show n_impl_Node (n_impl_Node n) = n_impl_Node n from rfl]
  rw [wr64' (n := gi (rd (gl n 9) to) 0 - 1) (by omega) (by omega), hp, spec_termAt_eq (by omega) (by omega)]
  simp only [Option.bind_some, show gl (n_impl_Node n) 3 = gl n 3 from rfl, show gl (n_impl_Node n) 8 = gl n 8 from rfl, show gl (n_impl_Node n) 10 = gl n 10 from rfl]
  have key := loop_run (F := fun m r i => spec_l4add_v1_l4 m i ((ND.of n).c 3 4 5 6) (V.agg [(V.int .i64 0), (V.int .i64 0), (V.int .i64 0), (V.int .i64 0), (V.int .i64 0), (V.int .i64 0), (V.sl 7 t_impl_Item 0 none), (V.int .i64 0), (V.bool false)])
      (V.agg [(V.int .i64 2), (V.int .i64 (gi n 0)), (V.int .i64 (to : Int)), (V.int .i64 (gi n 1)), (V.int .i64 ((prevN n to : Nat) : Int)), (V.int .i64 (termN n (prevN n to))), (V.sl 8 t_impl_Item 0 none), (V.int .i64 (gi n 4)), (V.bool false)]) (gl n 3) (gl n 8) (gl n 9) (gl n 10) [] r)
      (n := min (gl n 3).length (prevN n to + 4)) (fun i r => prevN n to ≤ i ∧ r = (((gl n 3).drop (prevN n to)).take (i - prevN n to)).map n_laws_Item)
      (fun o => o = some ((ND.of n).c 3 4 5 6, V.agg [(V.int .i64 0), (V.int .i64 0), (V.int .i64 0), (V.int .i64 0), (V.int .i64 0), (V.int .i64 0), (V.sl 7 t_impl_Item 0 none), (V.int .i64 0), (V.bool false)],
        V.agg [(V.int .i64 2), (V.int .i64 (gi n 0)), (V.int .i64 (to : Int)), (V.int .i64 (gi n 1)), (V.int .i64 ((prevN n to : Nat) : Int)), (V.int .i64 (termN n (prevN n to))), (V.sl 8 t_impl_Item 0 none), (V.int .i64 (gi n 4)), (V.bool false)], gl n 3, gl n 8, gl n 9, gl n 10, [], itemsN n (prevN n to))) ?_ ?_
      (((gl n 3).length - prevN n to) + 1) (prevN n to) [] (by omega) (by omega) ⟨Nat.le_refl _, by simp⟩
  · rw [show (((gl n 3).length : Int) - ((prevN n to : Nat) : Int)).toNat + 1 = ((gl n 3).length - prevN n to) + 1 from by omega]
    have key : spec_l4add_v1_l4 _ _ _ _ _ _ _ _ _ _ _ = _ := key
    exact Eq.trans (congrArg (fun o => Option.bind o _) key) rfl
  · intro m i r hi hI
    obtain ⟨hpi, hr⟩ := hI
    have hi3 : i < (gl n 3).length := by omega
    have hrl : r.length = i - prevN n to := by rw [hr]; simp; omega
    refine .inl ⟨r ++ [n_laws_Item (rd (gl n 3) i)], ?_, by omega, ?_⟩
    · show spec_l4add_v1_l4 (m + 1) _ _ _ _ _ _ _ _ _ _ = _
      rw [spec_l4add_v1_l4]
      simp only [lt_nat hi3, idxOk_nat hi3, cond_true, Int.toNat_natCast, Nat.zero_add]
      rw [decide_eq_true (p := ((r.length : Nat) : Int) < 4) (by omega), roomyB (n := r.length + 1) (by omega) (by omega), wr_succ hi3 (by omega)]
      rfl
    · rw [show i + 1 - prevN n to = (i - prevN n to) + 1 from by omega, take_rd (by simp; omega), rd_drop, show prevN n to + (i - prevN n to) = i from by omega, List.map_append, ← hr]
      rfl
  · intro m r hI
    obtain ⟨hpi, hr⟩ := hI
    have hrl : r.length = min (gl n 3).length (prevN n to + 4) - prevN n to := by rw [hr]; simp; omega
    have hri : r = itemsN n (prevN n to) := by
      rw [hr, itemsN]
      congr 1
      rw [List.take_eq_take_iff]
      simp; omega
    show spec_l4add_v1_l4 (m + 1) _ _ _ _ _ _ _ _ _ _ = _
    rw [spec_l4add_v1_l4]
    by_cases hlt : min (gl n 3).length (prevN n to + 4) < (gl n 3).length
    · rw [lt_nat hlt, decide_eq_false (p := ((r.length : Nat) : Int) < 4) (by omega), ← hri]; rfl
    · rw [show min (gl n 3).length (prevN n to + 4) = (gl n 3).length from by omega, lt_self, ← hri]; rfl
theorem spec_l4commit_count {s : ND} (hl : s.mtch.length ≤ 1000) (place : Int) : spec_l4commit_l7 (s.mtch.length + 1) place 0 0 (s.c 1 2 3 4) s.log s.votes s.next s.mtch = some (place, ((cntGe place s.mtch : Nat) : Int), s.c 1 2 3 4, s.log, s.votes, s.next, s.mtch) := by
  refine loop_run0 (F := fun m c i => spec_l4commit_l7 m place c i (s.c 1 2 3 4) s.log s.votes s.next s.mtch) (n := s.mtch.length) (fun i c => c = ((cntGe place (s.mtch.take i) : Nat) : Int)) (fun o => o = some (place, ((cntGe place s.mtch : Nat) : Int), s.c 1 2 3 4, s.log, s.votes, s.next, s.mtch)) ?_ ?_ (by simp [cntGe])
  · intro m i c hi hI
    have hle := cntGe_le place (s.mtch.take i)
    simp only [List.length_take] at hle
    refine .inl ⟨_, ?_, (cntGe_succ place hi ▸ rfl : ((cntGe place (s.mtch.take (i + 1)) : Nat) : Int) = ((cntGe place (s.mtch.take (i + 1)) : Nat) : Int))⟩
    show spec_l4commit_l7 (m + 1) place c (i : Int) _ _ _ _ _ = _
    rw [spec_l4commit_l7, cntGe_succ place hi]
    simp only [lt_nat hi, idxOk_nat hi, Int.toNat_natCast, Nat.zero_add, cond_true, wr_succ hi (show s.mtch.length ≤ 9223372036854775807 by omega)]
    by_cases h : place ≤ gi (rd s.mtch i) 0
    · simp only [h, decide_true, cond_true]
      rw [wr64' (by omega) (by omega), hI, show ((cntGe place (s.mtch.take i) : Nat) : Int) + 1 = ((cntGe place (s.mtch.take i) + 1 : Nat) : Int) from by omega]
      rfl
    · simp only [h, decide_false, cond_false, Nat.add_zero]
      rw [hI]; rfl
  · intro m c hI
    rw [List.take_length] at hI
    show spec_l4commit_l7 (m + 1) place c _ _ _ _ _ _ = _
    rw [spec_l4commit_l7, lt_self, hI]; rfl
theorem spec_l4commit_run {s : ND} {c : Nat} (hc : s.commit = (c : Int)) (hm : s.mtch.length ≤ 1000) (hv : s.votes.length = s.mtch.length) (hL : s.log.length ≤ 1000) :
    ∀ j m, j < m → c + j ≤ s.log.length → ∃ ix, spec_l4commit_l3 m ((c + j : Nat) : Int) (s.c 1 2 3 4) s.log s.votes s.next s.mtch = some (ix, ({ s with commit := ((scanC s c j : Nat) : Int) } : ND).c 1 2 3 4, s.log, s.votes, s.next, s.mtch)
  | _, 0, h, _ => by omega
  | 0, m + 1, _, _ => by
    refine ⟨1, ?_⟩
    rw [spec_l4commit_l3]
    simp only [ND.c, gi_c0, gi_cs, scanC, ← hc, Nat.add_zero]
    simp only [Int.lt_irrefl, decide_false, cond_false]
    try rfl
  | j + 1, m + 1, h, hj => by
    obtain ⟨ix, ih⟩ := spec_l4commit_run hc hm hv hL j m (by omega) (by omega)
    have ecnt := spec_l4commit_count hm (((c + (j + 1) : Nat)) : Int)
    have et := spec_termAt_eq (n := s.v) (p := c + (j + 1)) (show s.log.length ≤ _ by omega) (by omega)
    rw [show n_impl_Node s.v = s.v from rfl, show termN s.v (c + (j + 1)) = termL s.log (c + (j + 1)) from rfl] at et
    have hcl := cntGe_le (((c + (j + 1) : Nat)) : Int) s.mtch
    rw [spec_l4commit_l3]
    simp only [ND.c, ND.v, gi_c0, gi_cs, fuel_eq] at ecnt ih et ⊢
    have hlt : s.commit < ((c + (j + 1) : Nat) : Int) := by omega
    simp only [hlt, decide_true, ecnt, cond_true, Option.bind_some, gi_c0, gi_cs, et, spec_l4most]
    rw [wr64' (n := 2 * ((cntGe (((c + (j + 1) : Nat)) : Int) s.mtch : Nat) : Int)) (by omega) (by omega), wr64' (n := (((c + (j + 1) : Nat)) : Int) - 1) (by omega) (by omega), show (((c + (j + 1) : Nat)) : Int) - 1 = ((c + j : Nat) : Int) from by omega]
    simp only [scanC, hv]
    by_cases h1 : ((s.mtch.length : Nat) : Int) < 2 * ((cntGe (((c + (j + 1) : Nat)) : Int) s.mtch : Nat) : Int)
    · by_cases h2 : termL s.log (c + (j + 1)) = s.term
      · simp only [h1, h2, decide_true, cond_true, Bool.and_self]
        exact ⟨0, rfl⟩
      · simp only [h1, h2, decide_true, decide_false, cond_true, cond_false, Bool.false_and]
        exact ⟨ix, ih⟩
    · simp only [h1, decide_false, cond_false, Bool.and_false]
      exact ⟨ix, ih⟩
theorem spec_l4commit_eq {s : ND} (hi0 : 0 ≤ s.id) (hi : s.id < (s.mtch.length : Int)) (hn : s.next.length = s.mtch.length) (hv : s.votes.length = s.mtch.length) (hm : s.mtch.length ≤ 1000) (hL : s.log.length ≤ 1000) (hc0 : 0 ≤ s.commit) (hc1 : s.commit ≤ (s.log.length : Int)) :
    spec_l4commit s.v = some s.adv.v := by
  obtain ⟨c, hc⟩ : ∃ c : Nat, s.commit = (c : Int) := ⟨s.commit.toNat, by omega⟩
  obtain ⟨ix, e⟩ := spec_l4commit_run (s := s.mark) (c := c) hc (by simpa [ND.mark] using hm) (by simpa [ND.mark] using hv) hL (s.log.length - c) (s.log.length - c + 1) (by omega) (by show c + (s.log.length - c) ≤ s.log.length; omega)
  have ei : s.id = ((s.id.toNat : Nat) : Int) := by omega
  unfold spec_l4commit
  rw [show gi s.v 0 = s.id from rfl, show gl s.v 10 = s.mtch from rfl, show gl s.v 9 = s.next from rfl, show gl s.v 3 = s.log from rfl]
  rw [show idxOk s.id s.mtch.length = true from by rw [ei]; exact idxOk_nat (by omega), show idxOk s.id s.next.length = true from by rw [ei]; exact idxOk_nat (by omega)]
  simp only [cond_true]
  rw [wr64' (n := ((s.log.length : Nat) : Int) + 1) (by omega) (by omega)]
  have e : spec_l4commit_l3 (s.log.length - c + 1) ((c + (s.log.length - c) : Nat) : Int) (s.c 1 2 3 4) s.log s.votes (s.next.set (0 + s.id.toNat) (V.int .i64 (((s.log.length : Nat) : Int) + 1))) (s.mtch.set (0 + s.id.toNat) (V.int .i64 ((s.log.length : Nat) : Int))) = some (ix, ({ s.mark with commit := ((scanC s.mark c (s.log.length - c) : Nat) : Int) } : ND).c 1 2 3 4, s.log, s.votes, s.next.set (0 + s.id.toNat) (V.int .i64 (((s.log.length : Nat) : Int) + 1)), s.mtch.set (0 + s.id.toNat) (V.int .i64 ((s.log.length : Nat) : Int))) := by
    rw [Nat.zero_add]; exact e
  rw [show ((c + (s.log.length - c) : Nat) : Int) = ((s.log.length : Nat) : Int) from by omega] at e
  have ef : (((s.log.length : Nat) : Int) - s.commit).toNat + 1 = s.log.length - c + 1 := by omega
  have e2 : spec_l4commit_l3 ((((s.log.length : Nat) : Int) - s.commit).toNat + 1) ((s.log.length : Nat) : Int) (s.c 1 2 3 4) s.log s.votes (s.next.set (0 + s.id.toNat) (V.int .i64 (((s.log.length : Nat) : Int) + 1))) (s.mtch.set (0 + s.id.toNat) (V.int .i64 ((s.log.length : Nat) : Int))) = some (ix, ({ s.mark with commit := ((scanC s.mark c (s.log.length - c) : Nat) : Int) } : ND).c 1 2 3 4, s.log, s.votes, s.next.set (0 + s.id.toNat) (V.int .i64 (((s.log.length : Nat) : Int) + 1)), s.mtch.set (0 + s.id.toNat) (V.int .i64 ((s.log.length : Nat) : Int))) := by rw [ef]; exact e
  have hadv : s.adv = ({ s.mark with commit := ((scanC s.mark c (s.log.length - c) : Nat) : Int) } : ND) := by
    unfold ND.adv
    rw [show s.commit.toNat = c from by omega]
  rw [hadv]
  refine Eq.trans (congrArg (fun o => Option.bind o _) e2) ?_
  simp only [Option.bind_some, Nat.zero_add]
  cases Nat.beq ix 0 <;> rfl
theorem spec_l4all_v1_eq {s : ND} (hW : W_Node s.v) (hv : s.votes.length ≤ 1000) (hN : ∀ i, i < s.votes.length → (i : Int) ≠ s.id → NextOk s.v i) : spec_l4all_v1 s.v = some (msgsN s.v s.votes.length, s.v) := by
  have key := loop_run0 (F := fun m r i => spec_l4all_v1_l3 m i (s.c 2 3 4 5) r s.log s.votes s.next s.mtch) (n := s.votes.length) (fun i r => r = msgsN s.v i) (fun o => o = some (s.c 2 3 4 5, msgsN s.v s.votes.length, s.log, s.votes, s.next, s.mtch)) ?_ ?_ (s := []) rfl
  · unfold spec_l4all_v1
    rw [show gl s.v 8 = s.votes from rfl, fuel_eq]
    have key : spec_l4all_v1_l3 (s.votes.length + 1) 0 (s.c 2 3 4 5) [] s.log s.votes s.next s.mtch = _ := key
    exact Eq.trans (congrArg (fun o => Option.bind o _) key) rfl
  · intro m i r hi hI
    have hrl : r.length ≤ i := by rw [hI]; exact msgsN_len _ _
    refine .inl ⟨msgsN s.v (i + 1), ?_, rfl⟩
    show spec_l4all_v1_l3 (m + 1) (i : Int) _ _ _ _ _ _ = _
    rw [spec_l4all_v1_l3, msgsN_succ, ← hI]
    simp only [ND.c, gi_c0, gi_cs, lt_nat hi, cond_true, wr_succ hi (show s.votes.length ≤ 9223372036854775807 by omega)]
    by_cases h : (i : Int) = s.id
    · simp only [show gi s.v 0 = s.id from rfl, h, decide_true, Bool.not_true, cond_false, cond_true, List.append_nil]
    · have ea := spec_l4add_v1_eq (n := s.v) hW (to := i) (hN i hi h)
      rw [show n_impl_Node s.v = s.v from rfl] at ea
      have ea' : spec_l4add_v1 (V.agg [(V.int .i64 s.id), (V.int .i64 s.term), (V.int .i64 s.vote), (V.inl t_impl_Item s.log), (V.int .i64 s.commit), (V.int .i64 s.role), (V.int .i64 s.lead), (V.int .i64 s.wait), (V.inl t_bool s.votes), (V.inl t_int' s.next), (V.inl t_int' s.mtch)]) (i : Int) = some (addN s.v i, s.v) := ea
      simp only [show gi s.v 0 = s.id from rfl, h, decide_false, Bool.not_false, cond_true, cond_false, ea', Option.bind_some]
      rw [roomyB (n := r.length + 1) (by omega) (by omega)]
      rfl
  · intro m r hI
    show spec_l4all_v1_l3 (m + 1) _ _ _ _ _ _ _ = _
    rw [spec_l4all_v1_l3, lt_self, hI]; rfl
end Go.Eng.R
open Go Go.Eng
namespace Go.Eng.R
def ownD (n : V) : ND := { ND.of n with log := (gl n 3).map n_laws_Item }
theorem clone_bool_eq {l : List V} (h : l.length ≤ 4000000) : slices_Clone_bool l = some l := by
  unfold slices_Clone_bool; rw [roomyB (by omega) (by omega)]; rfl
theorem clone_int_eq {l : List V} (h : l.length ≤ 4000000) : slices_Clone_int l = some l := by
  unfold slices_Clone_int; rw [roomyB (by omega) (by omega)]; rfl
theorem impl_own_eq {n : V} (hn : W_Node n) (hz : zS z_Item (gl n 3) ≤ 4000000) (h8 : (gl n 8).length ≤ 1000) (h9 : (gl n 9).length ≤ 1000) (h10 : (gl n 10).length ≤ 1000) : impl_Node_own (n_impl_Node n) = some (ownD n).v := by
  unfold impl_Node_own
  simp only [show gl (n_impl_Node n) 3 = gl n 3 from rfl, show gl (n_impl_Node n) 8 = gl n 8 from rfl, show gl (n_impl_Node n) 9 = gl n 9 from rfl, show gl (n_impl_Node n) 10 = gl n 10 from rfl, impl_ownItems_eq hn.2.2.2.1 hz, clone_bool_eq (l := gl n 8) (by omega), clone_int_eq (l := gl n 9) (by omega), clone_int_eq (l := gl n 10) (by omega), Option.bind_some]
  rfl
theorem spec_own_eq {n : V} (hn : W_Node n) (hz : zS z_Item (gl n 3) ≤ 4000000) (h8 : (gl n 8).length ≤ 1000) (h9 : (gl n 9).length ≤ 1000) (h10 : (gl n 10).length ≤ 1000) : spec_l4own (n_impl_Node n) = some (ownD n).v := by
  unfold spec_l4own
  simp only [show gl (n_impl_Node n) 3 = gl n 3 from rfl, show gl (n_impl_Node n) 8 = gl n 8 from rfl, show gl (n_impl_Node n) 9 = gl n 9 from rfl, show gl (n_impl_Node n) 10 = gl n 10 from rfl, spec_ownItems_eq hn.2.2.2.1 hz, Option.bind_some]
  rw [roomyB (n := 0 + (gl n 8).length) (by omega) (by omega), roomyB (n := 0 + (gl n 9).length) (by omega) (by omega), roomyB (n := 0 + (gl n 10).length) (by omega) (by omega)]
  rfl
theorem ownD_W {n : V} (hn : W_Node n) : W_Node (ownD n).v :=
  ⟨hn.1, hn.2.1, hn.2.2.1, LW.map (h := n_laws_Item) (fun x hx => hx) hn.2.2.2.1, hn.2.2.2.2.1, hn.2.2.2.2.2.1, hn.2.2.2.2.2.2.1, hn.2.2.2.2.2.2.2.1, hn.2.2.2.2.2.2.2.2.1, hn.2.2.2.2.2.2.2.2.2.1, hn.2.2.2.2.2.2.2.2.2.2⟩
def Nrm (l : List V) : Prop := l.map n_laws_Item = l
theorem nrm_map (l : List V) : Nrm (l.map n_laws_Item) := by unfold Nrm; rw [List.map_map]; rfl
theorem nrm_append {a b : List V} (ha : Nrm a) (hb : Nrm b) : Nrm (a ++ b) := by unfold Nrm at *; rw [List.map_append, ha, hb]
theorem ownD_nrm {s : ND} (h : Nrm s.log) : ownD s.v = s := by
  unfold ownD
  rw [show gl s.v 3 = s.log from rfl, h]; rfl
theorem scanC_le (s : ND) (c : Nat) : ∀ j, scanC s c j ≤ c + j
  | 0 => Nat.le_refl _
  | j + 1 => by
    have := scanC_le s c j
    simp only [scanC]
    cases (decide (termL s.log (c + (j + 1)) = s.term) && decide ((s.votes.length : Int) < 2 * ((cntGe (((c + (j + 1) : Nat)) : Int) s.mtch : Nat) : Int))) <;> simp <;> omega
theorem LW_set {w : V → Prop} {l : List V} (h : LW w l) {x : V} (hx : w x) (i : Nat) : LW w (l.set i x) :=
  ⟨by simpa using h.1, fun y hy => (List.mem_or_eq_of_mem_set hy).elim (h.2 y) fun e => e ▸ hx⟩
theorem adv_W {s : ND} (hW : W_Node s.v) (hL : s.log.length ≤ 1000) (hc0 : 0 ≤ s.commit) (hc1 : s.commit ≤ (s.log.length : Int)) : W_Node s.adv.v := by
  have h1 := scanC_le s.mark s.commit.toNat (s.log.length - s.commit.toNat)
  refine ⟨hW.1, hW.2.1, hW.2.2.1, hW.2.2.2.1, ⟨?_, ?_⟩, hW.2.2.2.2.2.1, hW.2.2.2.2.2.2.1, hW.2.2.2.2.2.2.2.1, hW.2.2.2.2.2.2.2.2.1, ?_, ?_⟩
  · show (-9223372036854775808 : Int) ≤ ((scanC s.mark s.commit.toNat (s.log.length - s.commit.toNat) : Nat) : Int); omega
  · show ((scanC s.mark s.commit.toNat (s.log.length - s.commit.toNat) : Nat) : Int) ≤ 9223372036854775807; omega
  · exact LW_set (w := W_int) hW.2.2.2.2.2.2.2.2.2.1 ⟨by show (-9223372036854775808 : Int) ≤ ((s.log.length : Nat) : Int) + 1; omega, by show ((s.log.length : Nat) : Int) + 1 ≤ 9223372036854775807; omega⟩ _
  · exact LW_set (w := W_int) hW.2.2.2.2.2.2.2.2.2.2 ⟨by show (-9223372036854775808 : Int) ≤ ((s.log.length : Nat) : Int); omega, by show ((s.log.length : Nat) : Int) ≤ 9223372036854775807; omega⟩ _
theorem rd_set_ne {l : List V} {i j : Nat} (h : j ≠ i) (x : V) : rd (l.set i x) j = rd l j := by simp [rd, List.getD, List.getElem?_set, Ne.symm h]
theorem adv_next {s : ND} (hi0 : 0 ≤ s.id) {i : Nat} (hi : (i : Int) ≠ s.id) (h : NextOk s.v i) : NextOk s.adv.v i := by
  obtain ⟨h1, h2, h3, h4⟩ := h
  have e : rd (gl s.adv.v 9) i = rd (gl s.v 9) i := rd_set_ne (l := s.next) (by omega) _
  refine ⟨?_, by rw [e]; exact h2, by rw [e]; exact h3, h4⟩
  show i < (s.next.set _ _).length
  rw [List.length_set]; exact h1
theorem msgs_W {s : ND} (hW : W_Node s.v) (hv : s.votes.length ≤ 1000) (hN : ∀ i, i < s.votes.length → (i : Int) ≠ s.id → NextOk s.v i) : LW W_Msg (msgsN s.v s.votes.length) := by
  refine ⟨by have := msgsN_len s.v s.votes.length; omega, fun m hm => ?_⟩
  obtain ⟨i, hi, rfl⟩ := List.mem_map.1 hm
  obtain ⟨h1, h2⟩ := List.mem_filter.1 hi
  have h1 := List.mem_range.1 h1
  have hne : (i : Int) ≠ gi s.v 0 := by simpa using h2
  exact addN_W hW (hN i h1 hne) (by omega)
theorem sumL_bound {f : V → Nat} {l : List V} {B : Nat} (h : ∀ x ∈ l, f x ≤ B) : sumL f l ≤ l.length * B := by
  induction l with
  | nil => simp [sumL]
  | cons x l ih =>
    have h1 := h x (by simp)
    have h2 := ih fun y hy => h y (by simp [hy])
    simp only [sumL, List.length_cons, Nat.add_mul]; omega
theorem addN_c {n : V} {to : Nat} (hz : zS z_Item (gl n 3) ≤ 4000000) : c_Msg (addN n to) ≤ 100000010 := by
  have h1 := addN_ct (n := n) (to := to) hz
  have : c_Msg (addN n to) = 8 + ct_Msg (addN n to) := by simp only [c_Msg, ct_Msg]; omega
  omega
theorem msgs_c {s : ND} (hz : zS z_Item s.log ≤ 4000000) {N : Nat} (hv : N ≤ 5) : sumL c_Msg (msgsN s.v N) ≤ 600000000 := by
  have h1 := sumL_bound (f := c_Msg) (l := msgsN s.v N) (B := 100000010) fun m hm => by
    obtain ⟨i, hi, rfl⟩ := List.mem_map.1 hm
    exact addN_c hz
  have h2 := msgsN_len s.v N
  have : (msgsN s.v N).length * 100000010 ≤ 5 * 100000010 := Nat.mul_le_mul_right _ (by omega)
  omega
theorem msgs_own {s : ND} {N : Nat} : (msgsN s.v N).map ownM = msgsN s.v N := by
  unfold msgsN
  rw [List.map_map]
  congr 1
  funext i
  exact ownM_addN _ _
theorem msgs_items {s : ND} (hW : W_Node s.v) (hz : zS z_Item s.log ≤ 4000000) {N : Nat} : ∀ m ∈ msgsN s.v N, LW W_Item (gl m 6) ∧ zS z_Item (gl m 6) ≤ 4000000 := by
  intro m hm
  obtain ⟨i, hi, rfl⟩ := List.mem_map.1 hm
  have h6 := itemsN_z (n := s.v) (prevN s.v i)
  exact ⟨itemsN_W hW _, by show zS z_Item (itemsN s.v (prevN s.v i)) ≤ _; have : zS z_Item (gl s.v 3) ≤ 4000000 := hz; omega⟩
end Go.Eng.R
open Go Go.Eng
namespace Go.Eng.R
structure LeadOk (s : ND) : Prop where
  W : W_Node s.v
  id0 : 0 ≤ s.id
  idn : s.id < (s.mtch.length : Int)
  next : s.next.length = s.mtch.length
  votes : s.votes.length = s.mtch.length
  few : s.mtch.length ≤ 5
  log : s.log.length ≤ 401
  com0 : 0 ≤ s.commit
  com1 : s.commit ≤ (s.log.length : Int)
  size : zS z_Item s.log ≤ 4000000
  nexts : ∀ i, i < s.votes.length → (i : Int) ≠ s.id → NextOk s.v i
theorem LeadOk.adv {s : ND} (h : LeadOk s) : W_Node s.adv.v ∧ ∀ i, i < s.adv.votes.length → (i : Int) ≠ s.adv.id → NextOk s.adv.v i :=
  ⟨adv_W h.W (by have := h.log; omega) h.com0 h.com1, fun i hi hne => adv_next h.id0 hne (h.nexts i hi hne)⟩
theorem LeadOk.impl {s : ND} (h : LeadOk s) {out : List V} (ho : out.length ≤ 1000) : (Option.bind (impl_server_advance (s.sv out)) fun r => impl_server_sendAll (n_impl_server r)) = some (s.adv.sv (out ++ msgsN s.adv.v s.votes.length)) := by
  have hf := h.few; have hl := h.log
  rw [impl_advance_eq h.id0 h.idn h.next h.votes (by omega) (by omega) h.com0 h.com1, Option.bind_some]
  exact impl_sendAll_eq (s := s.adv) h.adv.1 h.size (show s.votes.length ≤ 1000 by have := h.votes; omega) h.adv.2 ho
theorem zS_append (z : V → Nat) (a b : List V) : zS z (a ++ b) = zS z a + zS z b := by simp only [zS, sumL_append, List.length_append]; omega
theorem bind_if {α β : Type} (c : Bool) (a b : Option α) (f : α → Option β) : Option.bind (bif c then a else b) f = bif c then Option.bind a f else Option.bind b f := by cases c <;> rfl
structure StepOk' (s : ND) (l : List V) : Prop where
  W : W_Node s.v
  nrm : Nrm s.log
  size : zS z_Item s.log ≤ 3000000
  votes : s.votes.length ≤ 5
  next : s.next.length ≤ 5
  mtch : s.mtch.length ≤ 5
  own : l.map ownM = l
  few : l.length ≤ 1000
  items : ∀ m ∈ l, LW W_Item (gl m 6) ∧ zS z_Item (gl m 6) ≤ 4000000
  msgs : LW W_Msg l
  marks : sumL c_Msg l ≤ 600000000
theorem StepOk'.out {s : ND} {l : List V} (h : StepOk' s l) : spec_l4own (n_impl_Node s.v) = some s.v ∧ spec_l4ownMsgs l = some l ∧ ct_Node s.v ≤ 100000000 := by
  have a3 := h.size; have a4 := h.votes; have a5 := h.next; have a6 := h.mtch; have a8 := h.few
  have eo := spec_own_eq (n := s.v) h.W (show zS z_Item s.log ≤ 4000000 by omega) (show s.votes.length ≤ 1000 by omega) (show s.next.length ≤ 1000 by omega) (show s.mtch.length ≤ 1000 by omega)
  rw [ownD_nrm h.nrm] at eo
  refine ⟨eo, by rw [spec_ownMsgs_eq (by omega) h.items, h.own], ?_⟩
  have e2 : sumL c_Item s.log ≤ 5 * zS z_Item s.log := sumL_mul 5 fun y _ => c_Item_cz y
  show sumL c_Item s.log + sumL c1 s.votes + sumL c1 s.next + sumL c1 s.mtch ≤ _
  simp only [sumL_c1]; omega
theorem StepOk'.none {s : ND} (hW : W_Node s.v) (hn : Nrm s.log) (hz : zS z_Item s.log ≤ 3000000) (h1 : s.votes.length ≤ 5) (h2 : s.next.length ≤ 5) (h3 : s.mtch.length ≤ 5) : StepOk' s [] :=
  ⟨hW, hn, hz, h1, h2, h3, rfl, by simp, by simp, LW.nil, by decide⟩
theorem StepOk'.led {s : ND} (h : LeadOk s) (hn : Nrm s.log) (hz : zS z_Item s.log ≤ 3000000) : StepOk' s.adv (msgsN s.adv.v s.votes.length) := by
  have hv := h.votes; have hf := h.few; have hx := h.next
  have hmw : LW W_Msg (msgsN s.adv.v s.votes.length) := msgs_W (s := s.adv) h.adv.1 (show s.votes.length ≤ 1000 by omega) h.adv.2
  have hml := msgsN_len s.adv.v s.votes.length
  exact ⟨h.adv.1, hn, hz, by show s.votes.length ≤ 5; omega, by show (s.next.set _ _).length ≤ 5; rw [List.length_set]; omega, by show (s.mtch.set _ _).length ≤ 5; rw [List.length_set]; omega,
    msgs_own (s := s.adv), by omega, msgs_items (s := s.adv) h.adv.1 (by show zS z_Item s.log ≤ _; omega), hmw, msgs_c (s := s.adv) (by show zS z_Item s.log ≤ _; omega) (by omega)⟩
structure OwnOk (n : V) (k : Int) (s : ND) : Prop where
  eq : s = ownD n
  p : NodeP n k
  W : W_Node s.v
  nrm : Nrm s.log
  size : zS z_Item s.log ≤ 1048576
  len : s.log.length = (gl n 3).length
theorem own_ok {n : V} {k : Int} (hn : W_Node n) (hz : zS z_Item (gl n 3) ≤ 1048576) (hp : NodeP n k) : OwnOk n k (ownD n) :=
  ⟨rfl, hp, ownD_W hn, nrm_map _, by rw [show zS z_Item (ownD n).log = zS z_Item (gl n 3) from zS_map (f := z_Item) (g := z_Item) (h := n_laws_Item) (fun x => rfl) _]; exact hz, List.length_map _⟩
theorem OwnOk.fields {n : V} {k : Int} {s : ND} (h : OwnOk n k s) : s.id = gi n 0 ∧ s.term = gi n 1 ∧ s.vote = gi n 2 ∧ s.commit = gi n 4 ∧ s.role = gi n 5 ∧ s.lead = gi n 6 ∧ s.wait = gi n 7 ∧ s.votes = gl n 8 ∧ s.next = gl n 9 ∧ s.mtch = gl n 10 := by
  rw [h.eq]; exact ⟨rfl, rfl, rfl, rfl, rfl, rfl, rfl, rfl, rfl, rfl⟩
theorem OwnOk.lead {n : V} {k : Int} {s : ND} (h : OwnOk n k s) (h2 : s.role = 2) {x : V} (hx : W_Item x) (hxz : z_Item x ≤ 1048576) (hlt : s.log.length ≤ 400) : LeadOk { s with log := s.log ++ [x] } ∧ zS z_Item (s.log ++ [x]) ≤ 3000000 := by
  obtain ⟨f0, f1, f2, f4, f5, f6, f7, f8, f9, f10⟩ := h.fields
  have hp := h.p; have hW := h.W; have hl := h.len; have hs := h.size
  have h8 := hp.lvotes; have h9 := hp.lnext; have h10 := hp.lmatch; have hk5 := hp.k5
  have hll : (s.log ++ [x]).length = s.log.length + 1 := by rw [List.length_append, List.length_singleton]
  have hsz : zS z_Item [x] = 1 + z_Item x := by simp [zS, sumL]
  have hz2 : zS z_Item (s.log ++ [x]) ≤ 3000000 := by rw [zS_append, hsz]; omega
  have hW2 : W_Node ({ s with log := s.log ++ [x] } : ND).v := by
    refine ⟨hW.1, hW.2.1, hW.2.2.1, ⟨?_, ?_⟩, hW.2.2.2.2.1, hW.2.2.2.2.2.1, hW.2.2.2.2.2.2.1, hW.2.2.2.2.2.2.2.1, hW.2.2.2.2.2.2.2.2.1, hW.2.2.2.2.2.2.2.2.2.1, hW.2.2.2.2.2.2.2.2.2.2⟩
    · show (s.log ++ [x]).length ≤ _
      rw [hll]; omega
    · intro y hy
      have hy : y ∈ s.log ++ [x] := hy
      rcases List.mem_append.1 hy with hy | hy
      · exact hW.2.2.2.1.2 y hy
      · obtain rfl := List.mem_singleton.1 hy
        exact hx
  have hnx : ∀ i, i < s.votes.length → (i : Int) ≠ s.id → NextOk ({ s with log := s.log ++ [x] } : ND).v i := fun i hi hne => by
    rw [f8] at hi
    obtain ⟨q1, q2, q3, q4⟩ := nextOk_of hp (by rw [← f5]; exact h2) (to := i) (by omega)
    refine ⟨?_, ?_, ?_, ?_⟩
    · show i < s.next.length; rw [f9]; exact q1
    · show 1 ≤ gi (rd s.next i) 0; rw [f9]; exact q2
    · show gi (rd s.next i) 0 ≤ (((s.log ++ [x]).length : Nat) : Int) + 1; rw [f9, hll]; omega
    · show (s.log ++ [x]).length ≤ 401; rw [hll]; omega
  have c0 := hp.com0; have c1 := hp.com1; have i0 := hp.id0; have ik := hp.idk
  refine ⟨⟨hW2, ?_, ?_, ?_, ?_, ?_, ?_, ?_, ?_, ?_, hnx⟩, hz2⟩
  · show 0 ≤ s.id; omega
  · show s.id < ((s.mtch.length : Nat) : Int); rw [f10]; omega
  · show s.next.length = s.mtch.length; rw [f9, f10]; omega
  · show s.votes.length = s.mtch.length; rw [f8, f10]; omega
  · show s.mtch.length ≤ 5; rw [f10]; omega
  · show (s.log ++ [x]).length ≤ 401; rw [hll]; omega
  · show 0 ≤ s.commit; omega
  · show s.commit ≤ (((s.log ++ [x]).length : Nat) : Int); rw [hll]; omega
  · show zS z_Item (s.log ++ [x]) ≤ 4000000; omega
end Go.Eng.R
