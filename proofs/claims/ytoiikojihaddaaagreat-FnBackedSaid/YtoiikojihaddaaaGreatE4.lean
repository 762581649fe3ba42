/- An own evaluator of the program's form, proved sound, and what it says of this law's functions: part 4. -/
import Derived.Test.YtoiikojihaddaaaGreatE3
import Derived.Lib.SlBytesConst
import Derived.Lib.Walk
import Derived.Test.YtoiikojihaddaaaGreatChecked
import Derived.WalkKit
set_option linter.unusedVariables false
open Go Go.Eng Go.Proofs
namespace Go.Eng.R
theorem tab_ok : ZC Tryz.prog tab := tabB_spec (by kernel_rfl)
theorem mixed : Tryz.prog.follows .mixedOrders = true := by kernel_rfl
theorem base : Base Tryz.prog tab := ⟨tab_ok, mixed⟩
def l0 (x : V) : List V := [(V.inl Zf (gl x 0)), (V.int .i64 (gi x 1)), (V.int .i64 (gi x 2))]
def h1 (x : V) : V := V.agg [(V.int .i64 (gi x 0)), (V.int .i64 (gi x 1)), (V.int .i64 (gi x 2)), (V.rr Zb true (gl x 3)), (V.int .i64 (gi x 4)), (V.int .i64 (gi x 5)), (V.int .i64 (gi x 6)), (V.int .i64 (gi x 7)), (V.rr Zi true (gl x 8)), (V.rr Ze true (gl x 9)), (V.rr Ze true (gl x 10))]
def q2 : List S1 := [.dead, .dead, .dead, (.rr Zb true), .dead, .dead, .dead, .dead, (.rr Zi true), (.rr Ze true), (.rr Ze true)]
def q3 : List S1 := [.dead, .dead, .dead, .dead, (.inl Zf), (.inl Zf)]
def q4 : List S1 := [(.int .i64), (.int .i64), (.int .i64), (.inl Zb), (.int .i64), (.int .i64), (.int .i64), (.int .i64), (.inl Zi), (.inl Ze), (.inl Ze)]
def l5 (x : V) : List V := [(V.int .i64 (gi x 0)), (V.int .i64 (gi x 1)), (V.int .i64 (gi x 2)), (V.sl 3 Zb 0 none), (V.int .i64 (gi x 4)), (V.int .i64 (gi x 5)), (V.int .i64 (gi x 6)), (V.int .i64 (gi x 7)), (V.sl 4 Zi 0 none), (V.sl 5 Ze 0 none), (V.sl 6 Ze 0 none)]
def l6 (x : V) : List V := [(V.int .i64 (gi x 0)), (V.int .i64 (gi x 1)), (V.int .i64 (gi x 2)), (V.sl 7 Zb 0 none), (V.int .i64 (gi x 4)), (V.int .i64 (gi x 5)), (V.int .i64 (gi x 6)), (V.int .i64 (gi x 7)), (V.sl 8 Zi 0 none), (V.sl 9 Ze 0 none), (V.sl 10 Ze 0 none)]
def q7 : List S1 := [(.int .i64), (.int .i64), (.int .i64), (.sl 3 Zb), (.int .i64), (.int .i64), (.int .i64), (.int .i64), (.sl 4 Zi), (.sl 5 Ze), (.sl 6 Ze)]
def q8 : List S1 := [(.int .i64), (.int .i64), (.int .i64), (.sl 7 Zb), (.int .i64), (.int .i64), (.int .i64), (.int .i64), (.sl 8 Zi), (.sl 9 Ze), (.sl 10 Ze)]
def h9 (x : V) : V := V.agg [(V.int .i64 (gi x 0)), (V.int .i64 (gi x 1)), (V.int .i64 (gi x 2)), (V.rr Zb false (gl x 3)), (V.int .i64 (gi x 4)), (V.int .i64 (gi x 5)), (V.int .i64 (gi x 6)), (V.int .i64 (gi x 7)), (V.rr Zi true (gl x 8)), (V.rr Ze true (gl x 9)), (V.rr Ze true (gl x 10))]
def q10 : List S1 := [.dead, .dead, .dead, (.rr Zb false), .dead, .dead, .dead, .dead, (.rr Zi true), (.rr Ze true), (.rr Ze true)]
def l11 (x : V) : List V := [(V.int .i64 (gi x 0)), (V.int .i64 (gi x 1)), (V.int .i64 (gi x 2)), (V.int .i64 (gi x 3)), (V.int .i64 (gi x 4)), (V.int .i64 (gi x 5)), (V.sl 3 Zb 0 none), (V.int .i64 (gi x 7)), (V.bool (gb x 8))]
def l12 (x : V) : List V := [(V.int .i64 (gi x 0)), (V.int .i64 (gi x 1)), (V.int .i64 (gi x 2)), (V.int .i64 (gi x 3)), (V.int .i64 (gi x 4)), (V.int .i64 (gi x 5)), (V.sl 4 Zb 0 none), (V.int .i64 (gi x 7)), (V.bool (gb x 8))]
def q13 : List S1 := [(.int .i64), (.int .i64), (.int .i64), (.int .i64), (.int .i64), (.int .i64), (.sl 3 Zb), (.int .i64), .bool]
def q14 : List S1 := [(.int .i64), (.int .i64), (.int .i64), (.int .i64), (.int .i64), (.int .i64), (.sl 4 Zb), (.int .i64), .bool]
def h15 (x : V) : V := V.agg [(V.int .i64 (gi x 0)), (V.int .i64 (gi x 1)), (V.int .i64 (gi x 2)), (V.int .i64 (gi x 3)), (V.int .i64 (gi x 4)), (V.int .i64 (gi x 5)), (V.rr Zb false (gl x 6)), (V.int .i64 (gi x 7)), (V.bool (gb x 8))]
def q16 : List S1 := [.dead, .dead, .dead, .dead, .dead, .dead, (.rr Zb false)]
def l17 (x : V) : List V := [(V.int .i64 (gi x 0)), (V.int .i64 (gi x 1)), (V.int .i64 (gi x 2)), (V.sl 5 Zb 0 none), (V.int .i64 (gi x 4)), (V.int .i64 (gi x 5)), (V.int .i64 (gi x 6)), (V.int .i64 (gi x 7)), (V.sl 6 Zi 0 none), (V.sl 7 Ze 0 none), (V.sl 8 Ze 0 none)]
def l18 (x : V) : List V := [(V.int .i64 (gi x 0)), (V.int .i64 (gi x 1)), (V.int .i64 (gi x 2)), (V.int .i64 (gi x 3)), (V.int .i64 (gi x 4)), (V.int .i64 (gi x 5)), (V.sl 9 Zb 0 none), (V.int .i64 (gi x 7)), (V.bool (gb x 8))]
def l19 (x : V) : List V := [(V.int .i64 (gi x 0)), (V.int .i64 (gi x 1)), (V.int .i64 (gi x 2)), (V.sl 10 Zb 0 none), (V.int .i64 (gi x 4)), (V.int .i64 (gi x 5)), (V.int .i64 (gi x 6)), (V.int .i64 (gi x 7)), (V.sl 11 Zi 0 none), (V.sl 12 Ze 0 none), (V.sl 13 Ze 0 none)]
def l20 (x : V) : List V := [(V.int .i64 (gi x 0)), (V.int .i64 (gi x 1)), (V.int .i64 (gi x 2)), (V.int .i64 (gi x 3)), (V.int .i64 (gi x 4)), (V.int .i64 (gi x 5)), (V.sl 14 Zb 0 none), (V.int .i64 (gi x 7)), (V.bool (gb x 8))]
def q21 : List S1 := [(.int .i64), (.int .i64), (.int .i64), (.sl 5 Zb), (.int .i64), (.int .i64), (.int .i64), (.int .i64), (.sl 6 Zi), (.sl 7 Ze), (.sl 8 Ze)]
def q22 : List S1 := [(.int .i64), (.int .i64), (.int .i64), (.int .i64), (.int .i64), (.int .i64), (.sl 9 Zb), (.int .i64), .bool]
def q23 : List S1 := [(.int .i64), (.int .i64), (.int .i64), (.sl 10 Zb), (.int .i64), (.int .i64), (.int .i64), (.int .i64), (.sl 11 Zi), (.sl 12 Ze), (.sl 13 Ze)]
def q24 : List S1 := [(.int .i64), (.int .i64), (.int .i64), (.int .i64), (.int .i64), (.int .i64), (.sl 14 Zb), (.int .i64), .bool]
def l25 (x : V) : List V := [(V.int .i64 (gi x 0)), (V.int .i64 (gi x 1)), (V.int .i64 (gi x 2)), (V.sl 4 Zb 0 none), (V.int .i64 (gi x 4)), (V.int .i64 (gi x 5)), (V.int .i64 (gi x 6)), (V.int .i64 (gi x 7)), (V.sl 5 Zi 0 none), (V.sl 6 Ze 0 none), (V.sl 7 Ze 0 none)]
def l26 (x : V) : List V := [(V.int .i64 (gi x 0)), (V.int .i64 (gi x 1)), (V.int .i64 (gi x 2)), (V.int .i64 (gi x 3)), (V.int .i64 (gi x 4)), (V.int .i64 (gi x 5)), (V.sl 8 Zb 0 none), (V.int .i64 (gi x 7)), (V.bool (gb x 8))]
def l27 (x : V) : List V := [(V.int .i64 (gi x 0)), (V.int .i64 (gi x 1)), (V.int .i64 (gi x 2)), (V.sl 9 Zb 0 none), (V.int .i64 (gi x 4)), (V.int .i64 (gi x 5)), (V.int .i64 (gi x 6)), (V.int .i64 (gi x 7)), (V.sl 10 Zi 0 none), (V.sl 11 Ze 0 none), (V.sl 12 Ze 0 none)]
def l28 (x : V) : List V := [(V.int .i64 (gi x 0)), (V.int .i64 (gi x 1)), (V.int .i64 (gi x 2)), (V.int .i64 (gi x 3)), (V.int .i64 (gi x 4)), (V.int .i64 (gi x 5)), (V.sl 13 Zb 0 none), (V.int .i64 (gi x 7)), (V.bool (gb x 8))]
def q29 : List S1 := [(.int .i64), (.int .i64), (.int .i64), (.sl 4 Zb), (.int .i64), (.int .i64), (.int .i64), (.int .i64), (.sl 5 Zi), (.sl 6 Ze), (.sl 7 Ze)]
def q30 : List S1 := [(.int .i64), (.int .i64), (.int .i64), (.int .i64), (.int .i64), (.int .i64), (.sl 8 Zb), (.int .i64), .bool]
def q31 : List S1 := [(.int .i64), (.int .i64), (.int .i64), (.sl 9 Zb), (.int .i64), (.int .i64), (.int .i64), (.int .i64), (.sl 10 Zi), (.sl 11 Ze), (.sl 12 Ze)]
def q32 : List S1 := [(.int .i64), (.int .i64), (.int .i64), (.int .i64), (.int .i64), (.int .i64), (.sl 13 Zb), (.int .i64), .bool]
def h33 (x : V) : V := V.agg [(V.int .i64 (gi x 0)), (V.int .i64 (gi x 1)), (V.int .i64 (gi x 2)), (V.rr Zf true (gl x 3)), (V.rr Zf true (gl x 4)), (V.int .i64 (gi x 5))]
def q34 : List S1 := [.dead, .dead, .dead, (.rr Zf true), (.rr Zf true)]
def q35 : List S1 := [(.int .i64), (.inl Zf), (.inl Zf), (.int .i64)]
def q36 : List S1 := [(.int .i64), (.int .i64), (.int .i64), (.inl Zf), (.inl Zf), (.int .i64)]
def q37 : List S1 := [(.int .i64), (.int .i64), (.int .i64), (.int .i64), (.inl Zf), (.inl Zf), (.int .i64)]
def l38 (x : V) : List V := [(V.int .i64 (gi x 0)), (V.int .i64 (gi x 1)), (V.int .i64 (gi x 2)), (V.inl Zb (gl x 3)), (V.int .i64 (gi x 4)), (V.int .i64 (gi x 5)), (V.int .i64 (gi x 6)), (V.int .i64 (gi x 7)), (V.inl Zi (gl x 8)), (V.inl Ze (gl x 9)), (V.inl Ze (gl x 10))]
def l39 (x : V) : List V := [(V.int .i64 (gi x 0)), (V.int .i64 (gi x 1)), (V.int .i64 (gi x 2)), (V.int .i64 (gi x 3)), (V.int .i64 (gi x 4)), (V.int .i64 (gi x 5)), (V.inl Zb (gl x 6)), (V.int .i64 (gi x 7)), (V.bool (gb x 8))]
def q40 : List S1 := [(.int .i64), (.int .i64), (.int .i64), (.int .i64), (.int .i64), (.int .i64), (.inl Zb), (.int .i64), .bool]
def h41 (x : V) : V := V.agg [(V.int .i64 (gi x 0)), (V.rr Zf true (gl x 1)), (V.rr Zf true (gl x 2)), (V.int .i64 (gi x 3))]
def q42 : List S1 := [.dead, (.rr Zf true), (.rr Zf true)]
def q43 : List S1 := [(.int .i64), (.int .i64), (.int .i64), (.rr Zb true), (.int .i64), (.int .i64), (.int .i64), (.int .i64), (.rr Zi true), (.rr Ze true), (.rr Ze true), (.rr Zk true)]
def l44 (x : V) : List V := [(V.int .i64 (gi x 0)), (V.int .i64 (gi x 1)), (V.int .i64 (gi x 2)), (V.rr Zb true (gl x 3)), (V.int .i64 (gi x 4)), (V.int .i64 (gi x 5)), (V.int .i64 (gi x 6)), (V.int .i64 (gi x 7)), (V.rr Zi true (gl x 8)), (V.rr Ze true (gl x 9)), (V.rr Ze true (gl x 10)), (V.rr Zk true (gl x 11))]
def q45 : List S1 := [.dead, .dead, .dead, (.rr Zb true), .dead, .dead, .dead, .dead, (.rr Zi true), (.rr Ze true), (.rr Ze true), (.rr Zk true)]
def l46 (x : V) : List V := [(V.int .i64 (gi x 0)), (V.int .i64 (gi x 1)), (V.int .i64 (gi x 2)), (V.sl 1 Zb 0 none), (V.int .i64 (gi x 4)), (V.int .i64 (gi x 5)), (V.int .i64 (gi x 6)), (V.int .i64 (gi x 7)), (V.sl 2 Zi 0 none), (V.sl 3 Ze 0 none), (V.sl 4 Ze 0 none), (V.sl 5 Zk 0 none)]
def q47 : List S1 := [(.int .i64), (.int .i64), (.int .i64), (.sl 2 Zb), (.int .i64), (.int .i64), (.int .i64), (.int .i64), (.sl 3 Zi), (.sl 4 Ze), (.sl 1 Ze), (.sl 5 Zk)]
def q48 : List S1 := [(.int .i64), (.int .i64), (.int .i64), (.sl 1 Zb), (.int .i64), (.int .i64), (.int .i64), (.int .i64), (.sl 2 Zi), (.sl 3 Ze), (.sl 4 Ze), (.sl 5 Zk)]
def h49 (x : V) : V := V.agg [(V.int .i64 (gi x 0)), (V.int .i64 (gi x 1)), (V.int .i64 (gi x 2)), (V.int .i64 (gi x 3)), (V.int .i64 (gi x 4)), (V.int .i64 (gi x 5)), (V.rr Zb true (gl x 6)), (V.int .i64 (gi x 7)), (V.bool (gb x 8))]
def q50 : List S1 := [.dead, .dead, .dead, .dead, .dead, .dead, (.rr Zb true)]
def q51 : List S1 := [(.int .i64), (.int .i64), (.int .i64), (.sl 2 Zb), (.int .i64), (.int .i64), (.int .i64), (.int .i64), (.sl 3 Zi), (.sl 4 Ze), (.sl 5 Ze), (.sl 6 Zk)]
def q52 : List S1 := [(.int .i64), (.int .i64), (.int .i64), (.sl 2 Zb), (.int .i64), (.int .i64), (.int .i64), (.int .i64), (.sl 1 Zi), (.sl 3 Ze), (.sl 4 Ze), (.sl 5 Zk)]
def l53 (x : V) : List V := [(V.int .i64 (gi x 0)), (V.int .i64 (gi x 1)), (V.int .i64 (gi x 2)), (V.sl 2 Zb 0 none), (V.int .i64 (gi x 4)), (V.int .i64 (gi x 5)), (V.int .i64 (gi x 6)), (V.int .i64 (gi x 7)), (V.sl 3 Zi 0 none), (V.sl 4 Ze 0 none), (V.sl 5 Ze 0 none), (V.sl 6 Zk 0 none)]
def l54 (x : V) : List V := [(V.int .i64 (gi x 0)), (V.int .i64 (gi x 1)), (V.int .i64 (gi x 2)), (V.sl 2 Zb 0 none), (V.int .i64 (gi x 4)), (V.int .i64 (gi x 5)), (V.int .i64 (gi x 6)), (V.int .i64 (gi x 7)), (V.sl 3 Zi 0 none), (V.sl 4 Ze 0 none), (V.sl 5 Ze 0 none)]
def q55 : List S1 := [(.int .i64), (.int .i64), (.int .i64), (.sl 2 Zb), (.int .i64), (.int .i64), (.int .i64), (.int .i64), (.sl 3 Zi), (.sl 4 Ze), (.sl 5 Ze)]
end Go.Eng.R
open Go Go.Eng Go.Proofs
namespace Go.Eng.R
theorem inf231 : (Tryz.prog.info? 231).map (·.size) = some 21 := by kernel_rfl
theorem zv231 : ∀ w, (zeroValue 231).run Tryz.prog w = .ok (Value.agg #[.int .i64 0, .int .i64 0, .int .i64 0, .int .i64 0, .int .i64 0, .int .i64 0, .int .i64 0, .slice none 0 0, .int .i64 0, .bool false, .int .i64 0, .int .i64 0, .int .i64 0, .int .i64 0, .slice none 0 0, .slice none 0 0, .int .i64 0, .int .i64 0, .int .i64 0, .int .i64 0, .int .i64 0]) w := fun w => by kernel_rfl
set_option maxHeartbeats 4000000 in
set_option maxRecDepth 1000000 in
theorem delSame191 : DelSame Tryz.prog 191 := by
  intro a n cap i w hin hn hcm
  go_enter Tryz.func191, Tryz.ntmps191
  go_wp2
  all_goals (go_ret; exact ⟨rfl, .refl _ _⟩)
set_option maxHeartbeats 4000000 in
set_option maxRecDepth 1000000 in
theorem del191 : DelOk Tryz.prog 191 231 21 := by
  intro g n cap i j cur w hg hs hn hcm h1 hij hj
  have hne : ¬ ((i : Int) = (j : Int)) := by omega
  have hb1 : (i : Int) ≤ (j : Int) := by omega
  have hb2 : (j : Int) ≤ (n : Int) := by omega
  have hb3 : (i : Int) ≤ (n : Int) := by omega
  have hb4 : i ≤ cap := by omega
  have hb5 : j ≤ cap := by omega
  obtain ⟨news, hnews⟩ : ∃ news, news = (cur.toList.drop (j * 21)).take ((n - j) * 21) := ⟨_, rfl⟩
  have hnl : news.length = (n - j) * 21 := by rw [hnews]; simp; omega
  have hsrc : ∀ k v, news[k]? = some v → w.cell? ((⟨g, j * 21, none⟩ : Addr).add k) = some v := by
    rw [hnews]; exact src_cells hg (by omega)
  have hone : ∀ v ∈ news, v.oneCell' = true := fun v hv => h1 v (by
    rw [hnews] at hv
    have : (cur.toList.drop (j * 21)).take ((n - j) * 21) = (cur.toList.take (n * 21)).drop (j * 21) := by
      rw [List.drop_take]; congr 1; omega
    rw [this] at hv
    exact List.mem_of_mem_drop hv)
  obtain ⟨c1, hc1⟩ : ∃ c1, c1 = (cur.toList.take (i * 21) ++ news ++ cur.toList.drop (i * 21 + news.length)).toArray := ⟨_, rfl⟩
  have hap : ∀ (W : World) (a : Addr) (m sc : Nat) (ty : TypeId), W.heap[g]? = w.heap[g]? → m = n - j → (m = 0 ∨ a = ⟨g, j * 21, none⟩) →
      (Builtin.append_ #[158, 158] ty #[.slice (some ⟨g, 0, none⟩) i cap, .slice (some a) m sc]).run Tryz.prog W = .ok (.slice (some ⟨g, 0, none⟩) (i + m) cap) (W.setRow g c1) := by
    intro W a m sc ty hW hm ha
    rw [hm] at ha ⊢
    have hst := run_storeCells_at Tryz.prog g (i * 21) 231 news 0 cur W (hW.trans hg) (by rw [hnl]; omega) hone
    simp only [Nat.add_zero] at hst
    rw [← hc1] at hst
    have hfc : (Builtin.firstCells 21 (n - j) (.slice (some a) (n - j) sc)).run Tryz.prog W = .ok news.toArray W := by
      refine run_firstCells_some (P := Tryz.prog) W 21 (n - j) a (n - j) sc news hnl fun k v hk => ?_
      rcases ha with h | rfl
      · have := (List.getElem?_eq_some_iff.1 hk).1
        rw [hnl] at this; omega
      · have := hsrc k v hk
        rw [← this]
        simp [World.cell?, hW, Addr.add_none]
    have hr : i + (n - j) ≤ cap := by omega
    cases hq : Tryz.prog.info? 231 with
    | none => have := inf231; rw [hq] at this; simp at this
    | some i0 =>
      have hi : i0.size = 21 := by have := inf231; rw [hq] at this; simpa using this
      simp [Builtin.append_, run_underlying Tryz.underlying158, sizeOf, typeInfo, hq, hi, Builtin.lenOf, hr, hfc, Addr.add_none, hst]
  have hc1s : c1.size = cap * 21 := by rw [hc1]; simp; omega
  have hc1t : c1.toList.take ((i + (n - j)) * 21) = (cur.toList.take (n * 21)).take (i * 21) ++ (cur.toList.take (n * 21)).drop (j * 21) := by
    rw [hc1]
    simp only [List.append_assoc]
    rw [← List.append_assoc, show (i + (n - j)) * 21 = (cur.toList.take (i * 21) ++ news).length from by simp [hnl]; omega, List.take_left, hnews, List.take_take, Nat.min_eq_left (by omega), List.drop_take]
    congr 2
    omega
  have hsub : n - (j - i) = i + (n - j) := by omega
  have hz : (Value.agg #[.int .i64 0, .int .i64 0, .int .i64 0, .int .i64 0, .int .i64 0, .int .i64 0, .int .i64 0, .slice none 0 0, .int .i64 0, .bool false, .int .i64 0, .int .i64 0, .int .i64 0, .int .i64 0, .slice none 0 0, .slice none 0 0, .int .i64 0, .int .i64 0, .int .i64 0, .int .i64 0, .int .i64 0]).cells.size = 21 := rfl
  have hz1 : ∀ v ∈ (Value.agg #[.int .i64 0, .int .i64 0, .int .i64 0, .int .i64 0, .int .i64 0, .int .i64 0, .int .i64 0, .slice none 0 0, .int .i64 0, .bool false, .int .i64 0, .int .i64 0, .int .i64 0, .int .i64 0, .slice none 0 0, .slice none 0 0, .int .i64 0, .int .i64 0, .int .i64 0, .int .i64 0, .int .i64 0]).cells, v.oneCell' = true := by decide
  rw [hsub]
  have hcn : ¬ (cap = i + (n - j)) := by omega
  have hlt : ((i + (n - j) : Nat) : Int) ≤ (n : Int) := by omega
  have hfin : ∀ (W1 : World) (d : Array Value), W1.heap[g]? = some (.cells d 231 (0, 0)) → d.size = cap * 21 → d.toList.take ((i + (n - j)) * 21) = (cur.toList.take (n * 21)).take (i * 21) ++ (cur.toList.take (n * 21)).drop (j * 21) → KeptBut [g] w W1 →
      ∃ W2, (∀ sc, (Builtin.clear_ #[158] 0 #[.slice (some ⟨g, (i + (n - j)) * 21, none⟩) (n - (i + (n - j))) sc]).run Tryz.prog W1 = .ok (.tuple #[]) W2) ∧
        ∃ cur' : Array Value, W2.heap[g]? = some (.cells cur' 231 (0, 0)) ∧ cur'.size = cap * 21 ∧ cur'.toList.take ((i + (n - j)) * 21) = (cur.toList.take (n * 21)).take (i * 21) ++ (cur.toList.take (n * 21)).drop (j * 21) ∧ KeptBut [g] w W2 := by
    intro W1 d e1 e2 e3 e4
    obtain ⟨tl, t1, t2⟩ := run_clear_k (P := Tryz.prog) W1 158 231 0 _ 21 Tryz.underlying158 zv231 hz hz1 (by omega) g ((i + (n - j)) * 21) (n - (i + (n - j))) (by omega) d 231 e1 (by omega)
    refine ⟨W1.setRow g (d.toList.take ((i + (n - j)) * 21) ++ tl ++ d.toList.drop ((i + (n - j)) * 21 + tl.length)).toArray, t2, (d.toList.take ((i + (n - j)) * 21) ++ tl ++ d.toList.drop ((i + (n - j)) * 21 + tl.length)).toArray, setRow_heap W1 g d _ 231 _ e1, ?_, ?_, e4.trans (KeptBut.setRow (by simp) _)⟩
    · simp; omega
    · rw [← e3, List.append_assoc]
      simp only
      rw [show (i + (n - j)) * 21 = (d.toList.take ((i + (n - j)) * 21)).length from by simp; omega]
      simp
  clear hc1 hnews hz hz1 hnl hsrc hone h1
  by_cases hjn : j = n
  · have hk : cur.toList.take ((i + (n - j)) * 21) = (cur.toList.take (n * 21)).take (i * 21) ++ (cur.toList.take (n * 21)).drop (j * 21) := by
      subst hjn
      rw [Nat.sub_self, Nat.add_zero, List.take_take, Nat.min_eq_left (by omega), List.drop_of_length_le (by simp; omega), List.append_nil]
    obtain ⟨W2, hcl, hpost⟩ := hfin w.drew cur hg hs hk (KeptBut.refl _ w).drew
    have e0 : i + (n - j) = i := by omega
    rw [e0] at hcl hpost hcn ⊢
    clear hfin hc1t hap hk hsub hlt e0
    subst hjn
    by_cases hcj : cap = j
    · subst hcj
      go_enter Tryz.func191, Tryz.ntmps191
      go_wp2
      go_region
      go_wp2_with (at_builtin; refine Zd1 rfl _ 158 rfl _ rfl (hcl _) ?_)
      go_ret
      exact ⟨rfl, hpost⟩
    · go_enter Tryz.func191, Tryz.ntmps191
      go_wp2
      go_region
      go_wp2_with (at_builtin; refine Zd1 rfl _ 158 rfl _ rfl (hcl _) ?_)
      go_ret
      exact ⟨rfl, hpost⟩
  · have hcj : ¬ (cap = j) := by omega
    obtain ⟨W2, hcl, hpost⟩ := hfin (w.drew.setRow g c1) c1 (setRow_heap _ g cur _ 231 _ hg) hc1s hc1t ((KeptBut.refl _ w).drew.trans (KeptBut.setRow (by simp) _))
    clear hfin hc1t
    go_enter Tryz.func191, Tryz.ntmps191
    go_wp2
    go_region_law (refine step_append_k rfl _ _ 158 158 rfl _ _ (by simp [Act.eval, Act.put]) (by simp [Act.eval, Act.put]) (hap w.drew ⟨g, j * 21, none⟩ (n - j) (cap - j) 158 rfl rfl (Or.inr rfl)) ?_)
    go_wp2_with (at_builtin; refine Zd1 rfl _ 158 rfl _ rfl (hcl _) ?_)
    go_ret
    exact ⟨rfl, hpost⟩
set_option maxHeartbeats 4000000 in
set_option maxRecDepth 1000000 in
theorem cmp206 : CmpOk Tryz.prog 206 := by
  intro v1 v2 c w h
  have hcall : (callFunc 215 #[v1, v2]).run Tryz.prog w = .ok (.value (.int .i64 c)) w := by
    rw [run_callFunc_extern Tryz.func215 (by kernel_rfl) (by kernel_rfl) (by kernel_rfl) (e := Extern.BytealgCompare.compare) (by kernel_rfl), h]
    rfl
  clear h
  go_enter Tryz.func206, Tryz.ntmps206
  go_wp2_with (simp only [hcall])
  all_goals (go_ret; exact ⟨rfl, .refl _ _⟩)
def ilA : List Nat := [75, 96, 97, 98, 116, 117, 118, 119, 136, 137, 138, 140, 141, 142, 143, 144, 161, 162, 163, 173, 174, 175, 176, 177, 181, 189, 190, 192, 193, 201, 202, 203, 213, 214, 216, 217, 218, 222]
def flA : List Nat := [12, 46, 47, 48, 49, 50, 60, 61, 62, 74, 78, 80, 82, 83, 84, 95, 99, 100, 106, 107, 108, 113, 114, 115, 120, 122, 132, 133, 134, 135, 139, 145, 146, 147, 148, 149, 152, 158, 159, 160, 164, 170, 171, 172, 178, 179, 180, 194, 195, 200, 204, 205, 207, 208, 211, 212, 219, 221, 223, 224, 225, 226, 227, 228, 230, 231, 232, 233]
def clA : List Nat := [114, 115, 145, 146, 147, 148, 149]
def cnA : Nat → Clear := fun f => bif Nat.beq f 49 then fun k => bif Nat.beq k 11 then some [3, 8, 11, 44, 45, 46] else none else fun _ => none
end Go.Eng.R
