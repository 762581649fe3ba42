/- An own evaluator of the program's form, proved sound, and what it says of this law's functions: part 3. -/
import Derived.Test.YtoiikojihaddaaaGreatE2
import Derived.Deep.RegionLaw
import Derived.Laws.Externs
import Derived.Laws.IdiomCopy
import Derived.Laws.NewBlocks
import Derived.Lib.AppendZeros
import Derived.Lib.AppendZerosOnto
import Derived.Lib.Bytealg
import Derived.Lib.BytesEntry
import Derived.Lib.Overlaps
import Derived.Lib.SlBytesConst
import Derived.Lib.Walk
import Derived.Test.YtoiikojihaddaaaGreatChecked
import Derived.Test.YtoiikojihaddaaaGreatProg
import Derived.WalkKit
set_option linter.unusedVariables false
namespace Go.Eng
variable {P : Program}
theorem run_copy_k (w : World) (dT sT ty elem : TypeId) (sz : Nat) (g o dLen dCap : Nat) (a : Addr) (sLen sCap : Nat) (cur : Array Value) (t : TypeId) (cs : List Value)
    (hu : P.underlying dT = some (.slice elem)) (hs : (P.info? elem).map (·.size) = some sz)
    (hg : w.heap[g]? = some (.cells cur t (0, 0))) (hn : cs.length = Nat.min sLen dLen * sz)
    (hsrc : ∀ j v, cs[j]? = some v → w.cell? (a.add j) = some v) (hfit : o + cs.length ≤ cur.size) (h1 : ∀ v ∈ cs, v.oneCell' = true) :
    (Builtin.copy_ #[dT, sT] ty #[.slice (some ⟨g, o, none⟩) dLen dCap, .slice (some a) sLen sCap]).run P w =
      .ok (goInt (Nat.min sLen dLen)) (w.setRow g (cur.toList.take o ++ cs ++ cur.toList.drop (o + cs.length)).toArray) := by
  have hl := run_loadCells_list (P := P) w a cs hsrc
  have hst := run_storeCells_at P g o t cs 0 cur w hg (by simpa using hfit) h1
  cases hq : P.info? elem with
  | none => simp [hq] at hs
  | some i =>
    have hi : i.size = sz := by simpa [hq] using hs
    simp [Builtin.copy_, run_underlying hu, Builtin.lenOf, Builtin.firstCells, sizeOf, typeInfo, hq, hi, ← hn, hl, hst]
theorem run_clear_k (w : World) (t e ty : TypeId) (z : Value) (sz : Nat) (hu : P.underlying t = some (.slice e)) (hv : ∀ w, (zeroValue e).run P w = .ok z w) (hz : z.cells.size = sz) (h1 : ∀ v ∈ z.cells, v.oneCell' = true) (hsz : 0 < sz)
    (g o n : Nat) (hn : 0 < n) (cur : Array Value) (T : TypeId) (hg : w.heap[g]? = some (.cells cur T (0, 0))) (hfit : o + n * sz ≤ cur.size) :
    ∃ tl : List Value, tl.length = n * sz ∧ ∀ c, (Builtin.clear_ #[t] ty #[.slice (some ⟨g, o, none⟩) n c]).run P w = .ok (.tuple #[]) (w.setRow g (cur.toList.take o ++ tl ++ cur.toList.drop (o + tl.length)).toArray) := by
  refine ⟨(Builtin.zeroCells z.cells n).toList, by rw [Array.length_toList, size_zeroCells, hz], fun c => ?_⟩
  have hl : (Builtin.zeroCells z.cells n).toList.length = n * sz := by rw [Array.length_toList, size_zeroCells, hz]
  have hst := run_storeCells_at P g o T (Builtin.zeroCells z.cells n).toList 0 cur w hg (by rw [hl]; simpa using hfit) (fun v hv' => by
    simp only [Builtin.zeroCells, Array.toList_map, List.mem_map] at hv'
    obtain ⟨k, hk, rfl⟩ := hv'
    have hlt : k % z.cells.size < z.cells.size := Nat.mod_lt _ (by omega)
    rw [getElem!_pos z.cells _ hlt]
    exact h1 _ (Array.getElem_mem hlt))
  simp only [Nat.add_zero] at hst
  obtain ⟨m, rfl⟩ : ∃ m, n = m + 1 := ⟨n - 1, by omega⟩
  simp [Builtin.clear_, run_underlying hu, hv, hst]
section
variable {w : World} {ops : Array Oper} {rest : List Oper} {o : Oper} {a : Act} {Q : Exit → Act → World → Prop}
theorem wpList_copy_k (hgd : o.guard = none) (d s : Operand) (t t' : TypeId)
    (ho : o.op = .call { callee := .builtin .copy, args := #[d, s], argTypes := #[t, t'] }) (v u : Value) (hd : a.eval d = v) (hs : a.eval s = u) {v' : Value} {w' : World}
    (hr : (Builtin.copy_ #[t, t'] o.type #[v, u]).run P w = .ok v' w') (h : wpList P ops Q rest (a.put o.dst v') w') : wpList P ops Q (o :: rest) a w :=
  wpList_plain hgd fun _ hK => by
    unfold Oper.wp execOp
    simp only [ho, resolve, invoke, builtin, Sem.run_bind, Sem.run_pure, Result.andThen_ok, List.map_toArray, List.map_cons, List.map_nil, hd, hs, hr]
    exact hK _ _ h
theorem wpList_clear_k (hgd : o.guard = none) (d : Operand) (t : TypeId)
    (ho : o.op = .call { callee := .builtin .clear, args := #[d], argTypes := #[t] }) (v : Value) (hd : a.eval d = v) {v' : Value} {w' : World}
    (hr : (Builtin.clear_ #[t] o.type #[v]).run P w = .ok v' w') (h : wpList P ops Q rest (a.put o.dst v') w') : wpList P ops Q (o :: rest) a w :=
  wpList_plain hgd fun _ hK => by
    unfold Oper.wp execOp
    simp only [ho, resolve, invoke, builtin, Sem.run_bind, Sem.run_pure, Result.andThen_ok, List.map_toArray, List.map_cons, List.map_nil, hd, hr]
    exact hK _ _ h
theorem step_copy_k {K : Act → World → Prop} {E : Prop}
    (hg : o.guard = none) (d x : Operand) (dT sT : TypeId) (hop : o.op = Op.call { callee := Callee.builtin Builtin.copy, args := #[d, x], argTypes := #[dT, sT] })
    (v u : Value) (hd : a.eval d = v) (hx : a.eval x = u) {v' : Value} {w' : World} (hr : (Builtin.copy_ #[dT, sT] o.type #[v, u]).run P w = .ok v' w') (hK : K (a.put o.dst v') w') :
    if Region.wanted o (yielded ops a.tmps) = true then Oper.wp P o a w K Q else E := by
  have hw : Region.wanted o (yielded ops a.tmps) = true := by simp [Region.wanted, hg]
  rw [if_pos hw]
  unfold Oper.wp
  simp [execOp, hop, resolve, invoke, builtin, hd, hx, hr, Result.andThen]
  exact hK
theorem step_append_k {K : Act → World → Prop} {E : Prop}
    (hg : o.guard = none) (d x : Operand) (dT sT : TypeId) (hop : o.op = Op.call { callee := Callee.builtin Builtin.append, args := #[d, x], argTypes := #[dT, sT] })
    (v u : Value) (hd : a.eval d = v) (hx : a.eval x = u) {v' : Value} {w' : World} (hr : (Builtin.append_ #[dT, sT] o.type #[v, u]).run P w = .ok v' w') (hK : K (a.put o.dst v') w') :
    if Region.wanted o (yielded ops a.tmps) = true then Oper.wp P o a w K Q else E := by
  have hw : Region.wanted o (yielded ops a.tmps) = true := by simp [Region.wanted, hg]
  rw [if_pos hw]
  unfold Oper.wp
  simp [execOp, hop, resolve, invoke, builtin, hd, hx, hr, Result.andThen]
  exact hK
end
def OneL (l : List Value) : Prop := ∀ v ∈ l, v.oneCell' = true
def DelOk (P : Program) (f : FuncId) (T : TypeId) (sz : Nat) : Prop :=
  ∀ (g n cap i j : Nat) (cur : Array Value) (w : World), w.heap[g]? = some (.cells cur T (0, 0)) → cur.size = cap * sz → n ≤ cap → cap ≤ maxLen → OneL (cur.toList.take (n * sz)) → i < j → j ≤ n →
    Calls P f #[.slice (some ⟨g, 0, none⟩) n cap, .int .i64 i, .int .i64 j] w fun e w' => e = .returned (.slice (some ⟨g, 0, none⟩) (n - (j - i)) cap) ∧
      ∃ cur' : Array Value, w'.heap[g]? = some (.cells cur' T (0, 0)) ∧ cur'.size = cap * sz ∧ cur'.toList.take ((n - (j - i)) * sz) = (cur.toList.take (n * sz)).take (i * sz) ++ (cur.toList.take (n * sz)).drop (j * sz) ∧ KeptBut [g] w w'
def DelSame (P : Program) (f : FuncId) : Prop :=
  ∀ (a : Option Addr) (n cap i : Nat) (w : World), i ≤ n → n ≤ cap → cap ≤ maxLen → Calls P f #[.slice a n cap, .int .i64 i, .int .i64 i] w fun e w' => e = .returned (.slice a n cap) ∧ KeptBut [] w w'
end Go.Eng
namespace Go.Eng
variable {P : Program}
theorem src_cells {w : World} {g o m : Nat} {cur : Array Value} {T : TypeId} (hg : w.heap[g]? = some (.cells cur T (0, 0))) (h : o + m ≤ cur.size) :
    ∀ j v, ((cur.toList.drop o).take m)[j]? = some v → w.cell? ((⟨g, o, none⟩ : Addr).add j) = some v := by
  intro j v hv
  rw [List.getElem?_take] at hv
  split at hv
  · rename_i hj
    rw [List.getElem?_drop] at hv
    rw [Addr.add_none]
    have hlt := (List.getElem?_eq_some_iff.1 hv).1
    have : o + j < cur.size := by simpa using hlt
    have e := (List.getElem?_eq_some_iff.1 hv).2
    simp [World.cell?, hg, this]
    simpa using e
  · cases hv
def InsOk (P : Program) (f : FuncId) (T : TypeId) (sz bytes : Nat) : Prop :=
  ∀ (w : World) (v v2 : Value) (n i : Nat) (xs ys : List Value), RowIs w T sz n v xs → RowIs w T sz 1 v2 ys → (∀ g ∈ topOf v, g ∉ topOf v2) → OneL xs → OneL ys → i ≤ n → (n + 1) * bytes ≤ 140737488355328 →
    n + 1 ≤ 9223372036854775807 → Calls P f #[v, .int .i64 i, v2] w fun e w' => ∃ v', e = .returned v' ∧ RowIs w' T sz (n + 1) v' (xs.take (i * sz) ++ ys ++ xs.drop (i * sz)) ∧ KeptBut (topOf v) w w' ∧ ∀ g ∈ topOf v', g ∈ topOf v ∨ w.heap.size ≤ g
end Go.Eng
namespace Go.Eng
theorem ins_list {α : Type} {cur y tl c1 c2 : List α} {a s : Nat} (ha : a + s ≤ cur.length) (hy : y.length = s) (h1 : c1 = cur.take (a + s) ++ tl ++ cur.drop (a + s + tl.length)) (h2 : c2 = c1.take a ++ y ++ c1.drop (a + s)) :
    c2.take (a + s + tl.length) = cur.take a ++ y ++ tl := by
  have e1 : c1.take a = cur.take a := by
    rw [h1, List.append_assoc, List.take_append_of_le_length (by simp; omega), List.take_take, Nat.min_eq_left (by omega)]
  have e2 : c1.drop (a + s) = tl ++ cur.drop (a + s + tl.length) := by
    rw [h1, List.append_assoc]; exact List.drop_left' (by simp; omega)
  rw [h2, e1, e2, ← List.append_assoc]
  exact List.take_left' (by simp; omega)
theorem mid_eq {α : Type} (l : List α) (a b : Nat) : (l.drop a).take (b - a) = (l.take b).drop a := by rw [List.drop_take]
end Go.Eng
namespace Go.Eng
theorem KeptBut.fresh {w w' : World} {F : List Nat} (h : KeptBut F w w') (hF : ∀ g ∈ F, w.heap.size ≤ g) : KeptBut [] w w' :=
  ⟨h.os, h.tape, h.output, h.size, fun g hg _ => h.block g hg fun hm => by have := hF g hm; omega⟩
theorem ins_list2 {α : Type} {row y tl c2 c3 : List α} {a s : Nat} (ha : a + s + tl.length ≤ row.length) (hy : y.length = s) (h2 : c2 = row.take a ++ y ++ row.drop (a + s)) (h3 : c3 = c2.take (a + s) ++ tl ++ c2.drop (a + s + tl.length)) :
    c3.take (a + s + tl.length) = row.take a ++ y ++ tl := by
  have e1 : c2.take (a + s) = row.take a ++ y := by rw [h2]; exact List.take_left' (by simp; omega)
  rw [h3, e1]
  exact List.take_left' (by simp; omega)
end Go.Eng
namespace Go.Eng
variable {P : Program}
def InsRoom (P : Program) (f : FuncId) (T : TypeId) (sz : Nat) : Prop :=
  ∀ (w : World) (g n cap i h caph : Nat) (cur curh : Array Value), w.heap[g]? = some (.cells cur T (0, 0)) → cur.size = cap * sz → cap ≤ maxLen → OneL (cur.toList.take (n * sz)) →
    w.heap[h]? = some (.cells curh T (0, 0)) → curh.size = caph * sz → 1 ≤ caph → h ≠ g → OneL (curh.toList.take sz) → i < n → n + 1 ≤ cap →
    Calls P f #[.slice (some ⟨g, 0, none⟩) n cap, .int .i64 i, .slice (some ⟨h, 0, none⟩) 1 caph] w fun e w' => e = .returned (.slice (some ⟨g, 0, none⟩) (n + 1) cap) ∧
      ∃ cur' : Array Value, w'.heap[g]? = some (.cells cur' T (0, 0)) ∧ cur'.size = cap * sz ∧ cur'.toList.take ((n + 1) * sz) = (cur.toList.take (n * sz)).take (i * sz) ++ curh.toList.take sz ++ (cur.toList.take (n * sz)).drop (i * sz) ∧ KeptBut [g] w w'
def InsGrow (P : Program) (f : FuncId) (T : TypeId) (sz bytes : Nat) : Prop :=
  ∀ (w : World) (g n cap i h caph : Nat) (cur curh : Array Value), w.heap[g]? = some (.cells cur T (0, 0)) → cur.size = cap * sz → cap ≤ maxLen → OneL (cur.toList.take (n * sz)) →
    w.heap[h]? = some (.cells curh T (0, 0)) → curh.size = caph * sz → 1 ≤ caph → OneL (curh.toList.take sz) → i < n → n ≤ cap → cap < n + 1 → (n + 1) * bytes ≤ 140737488355328 →
    Calls P f #[.slice (some ⟨g, 0, none⟩) n cap, .int .i64 i, .slice (some ⟨h, 0, none⟩) 1 caph] w fun e w' => ∃ cap', e = .returned (.slice (some ⟨w.heap.size, 0, none⟩) (n + 1) cap') ∧ n + 1 ≤ cap' ∧ cap' ≤ maxLen ∧
      ∃ cur' : Array Value, w'.heap[w.heap.size]? = some (.cells cur' T (0, 0)) ∧ cur'.size = cap' * sz ∧ cur'.toList.take ((n + 1) * sz) = (cur.toList.take (n * sz)).take (i * sz) ++ curh.toList.take sz ++ (cur.toList.take (n * sz)).drop (i * sz) ∧ KeptBut [] w w'
def InsEnd (P : Program) (f : FuncId) (T : TypeId) (sz bytes : Nat) : Prop :=
  ∀ (w : World) (v v2 : Value) (n : Nat) (xs ys : List Value), RowIs w T sz n v xs → RowIs w T sz 1 v2 ys → OneL ys → (n + 1) * bytes ≤ 140737488355328 → n + 1 ≤ 9223372036854775807 →
    Calls P f #[v, .int .i64 n, v2] w fun e w' => ∃ v', e = .returned v' ∧ RowIs w' T sz (n + 1) v' (xs ++ ys) ∧ KeptBut (topOf v) w w' ∧ ∀ g ∈ topOf v', g ∈ topOf v ∨ g = w.heap.size
theorem rowIs_some {w : World} {T : TypeId} {sz n : Nat} {g cap : Nat} {cur : Array Value} {xs : List Value} (hc : 0 < cap) (hg : w.heap[g]? = some (.cells cur T (0, 0))) (hn : n ≤ cap) (hm : cap ≤ maxLen) (hs : cur.size = cap * sz) (hx : cur.toList.take (n * sz) = xs) :
    RowIs w T sz n (.slice (some ⟨g, 0, none⟩) n cap) xs :=
  ⟨by rw [← hx, List.length_take, Array.length_toList, hs]; exact Nat.min_eq_left (Nat.mul_le_mul_right _ hn), .inr ⟨g, cap, cur, rfl, hc, hg, hn, hm, hs, hx⟩⟩
theorem topOf_some (g n cap : Nat) (hc : 0 < cap) : topOf (.slice (some ⟨g, 0, none⟩) n cap) = [g] := by
  obtain ⟨c, rfl⟩ : ∃ c, cap = c + 1 := ⟨cap - 1, by omega⟩
  rfl
theorem ins_ok {f : FuncId} {T : TypeId} {sz bytes : Nat} (hR : InsRoom P f T sz) (hG : InsGrow P f T sz bytes) (hE : InsEnd P f T sz bytes) : InsOk P f T sz bytes := by
  intro w v v2 n i xs ys hr hr2 hd h1 h1h hi hbig h63
  by_cases hin : i = n
  · subst hin
    refine (hE w v v2 i xs ys hr hr2 h1h hbig h63).mono ?_
    rintro e w' ⟨v', rfl, k1, k2, k3⟩
    refine ⟨v', rfl, ?_, k2, fun g hg => ?_⟩
    · rw [List.take_of_length_le (by rw [hr.1]; exact Nat.le_refl _), List.drop_of_length_le (by rw [hr.1]; exact Nat.le_refl _), List.append_nil]; exact k1
    · rcases k3 g hg with h | h
      · exact .inl h
      · exact .inr (by omega)
  · have hlt : i < n := by omega
    rcases hr.2 with ⟨a, rfl, h0⟩ | ⟨g, cap, cur, rfl, hc, hg, hn, hm, hs, hx⟩
    · omega
    rcases hr2.2 with ⟨a, rfl, h0⟩ | ⟨h, caph, curh, rfl, hch, hh, hn2, hm2, hs2, hx2⟩
    · omega
    have hne : h ≠ g := fun e => hd g (by rw [topOf_some _ _ _ hc]; simp) (by rw [topOf_some _ _ _ hch, e]; simp)
    rw [Nat.one_mul] at hx2
    subst hx; subst hx2
    by_cases hroom : n + 1 ≤ cap
    · refine (hR w g n cap i h caph cur curh hg hs hm h1 hh hs2 hn2 hne h1h hlt hroom).mono ?_
      rintro e w' ⟨rfl, cur', k1, k2, k3, k4⟩
      refine ⟨_, rfl, rowIs_some hc k1 hroom hm k2 k3, by rw [topOf_some _ _ _ hc]; exact k4, fun g' hg' => .inl ?_⟩
      rw [topOf_some _ _ _ hc] at hg' ⊢; exact hg'
    · refine (hG w g n cap i h caph cur curh hg hs hm h1 hh hs2 hn2 h1h hlt hn (by omega) hbig).mono ?_
      rintro e w' ⟨cap', rfl, k0, k0', cur', k1, k2, k3, k4⟩
      refine ⟨_, rfl, rowIs_some (by omega) k1 k0 k0' k2 k3, k4.mono (by simp), fun g' hg' => .inr ?_⟩
      rw [topOf_some _ _ _ (by omega)] at hg'; simp at hg'; omega
section
variable {tab : Tab}
structure Els (tab : Tab) (w : World) (ok : Nat → Prop) (ty : Ty) (own : Bool) (l : List V) (xs : List Value) (F : Nat → Nat → List Nat) : Prop where
  len : xs.length = l.length * ty.kinds.length
  shape : ∀ i, i < l.length → Shape ty (l.getD i .dead)
  yes : own = true → ∀ i j, i < l.length → j < ty.kinds.length → Ro tab w ((l.getD i .dead).cell j) (xs.getD (i * ty.kinds.length + j) undef) (F i j)
  no : own = false → (∀ i j, F i j = []) ∧ ∀ i j, i < l.length → j < ty.kinds.length → Rp tab w ok ((l.getD i .dead).cell j) (xs.getD (i * ty.kinds.length + j) undef)
theorem RowT.els {w : World} {ok : Nat → Prop} {T : TypeId} {own : Bool} {l : List V} {v : Value} {nest : List Nat} (h : RowT tab w ok T own l v nest) {ty : Ty} (ht : tab T = some ty) :
    ∃ xs F, RowIs w T ty.kinds.length l.length v xs ∧ Els tab w ok ty own l xs F ∧ nest = flatF l.length ty.kinds.length F := by
  obtain ⟨ty', xs, ht', hr, hs, he⟩ := h
  obtain rfl := Option.some.inj (ht.symm.trans ht')
  rcases he with ⟨ho, F, hn, he⟩ | ⟨ho, hn, he⟩
  · exact ⟨xs, F, hr, ⟨hr.1, hs, fun _ => he, fun h => by rw [ho] at h; cases h⟩, hn⟩
  · refine ⟨xs, fun _ _ => [], hr, ⟨hr.1, hs, fun h => by rw [ho] at h; (cases h), fun _ => ⟨fun _ _ => rfl, he⟩⟩, ?_⟩
    rw [hn]; simp [flatF]
theorem Els.row {w : World} {ok : Nat → Prop} {T : TypeId} {own : Bool} {l : List V} {v : Value} {ty : Ty} (ht : tab T = some ty) {xs : List Value} {F : Nat → Nat → List Nat} (hr : RowIs w T ty.kinds.length l.length v xs) (h : Els tab w ok ty own l xs F) :
    RowT tab w ok T own l v (flatF l.length ty.kinds.length F) := by
  refine ⟨ty, xs, ht, hr, h.shape, ?_⟩
  cases ho : own with
  | true => exact .inl ⟨rfl, F, rfl, h.yes ho⟩
  | false =>
    obtain ⟨h1, h2⟩ := h.no ho
    refine .inr ⟨rfl, ?_, h2⟩
    simp [flatF, h1]
theorem Els.keep {w w' : World} {ok ok' : Nat → Prop} {own : Bool} {l : List V} {ty : Ty} {xs : List Value} {F : Nat → Nat → List Nat} (h : Els tab w ok ty own l xs F) (hok : ∀ g, ok g → ok' g) (hw : ∀ g, ok g → w'.heap[g]? = w.heap[g]?)
    (hF : ∀ i j, i < l.length → j < ty.kinds.length → ∀ g ∈ F i j, w'.heap[g]? = w.heap[g]?) : Els tab w' ok' ty own l xs F :=
  ⟨h.len, h.shape, fun ho i j hi hj => (h.yes ho i j hi hj).keep (hF i j hi hj), fun ho => ⟨(h.no ho).1, fun i j hi hj => ((h.no ho).2 i j hi hj).keep hok hw⟩⟩
theorem Els.one {w : World} {ok : Nat → Prop} {own : Bool} {l : List V} {ty : Ty} {xs : List Value} {F : Nat → Nat → List Nat} (h : Els tab w ok ty own l xs F) : OneL xs := by
  intro v hv
  obtain ⟨k, hk, rfl⟩ := List.getElem_of_mem hv
  rw [h.len] at hk
  obtain ⟨h1, h2, h3⟩ := divmod_idx hk
  have e : xs.getD (k / ty.kinds.length * ty.kinds.length + k % ty.kinds.length) undef = xs[k] := by rw [h3]; simp [List.getD, h.len, hk]
  rw [← e]
  cases ho : own with
  | true => exact (h.yes ho _ _ h1 h2).oneCell
  | false => exact ((h.no ho).2 _ _ h1 h2).oneCell _ ((h.shape _ h1).2.2.2 _ h2)
theorem Els.pick {w : World} {ok : Nat → Prop} {own : Bool} {l : List V} {ty : Ty} {xs : List Value} {F : Nat → Nat → List Nat} (h : Els tab w ok ty own l xs F) (φ : Nat → Nat) {l' : List V} {xs' : List Value}
    (hlen : xs'.length = l'.length * ty.kinds.length) (hφ : ∀ k, k < l'.length → φ k < l.length) (hl : ∀ k, k < l'.length → l'.getD k .dead = l.getD (φ k) .dead)
    (hx : ∀ k c, k < l'.length → c < ty.kinds.length → xs'.getD (k * ty.kinds.length + c) undef = xs.getD (φ k * ty.kinds.length + c) undef) : Els tab w ok ty own l' xs' (fun k c => F (φ k) c) :=
  ⟨hlen, fun k hk => by rw [hl k hk]; exact h.shape _ (hφ k hk), fun ho k c hk hc => by rw [hl k hk, hx k c hk hc]; exact h.yes ho _ _ (hφ k hk) hc,
   fun ho => ⟨fun k c => (h.no ho).1 _ _, fun k c hk hc => by rw [hl k hk, hx k c hk hc]; exact (h.no ho).2 _ _ (hφ k hk) hc⟩⟩
theorem Els.append {w : World} {ok : Nat → Prop} {own : Bool} {l l' : List V} {ty : Ty} {xs xs' : List Value} {F F' : Nat → Nat → List Nat} (h : Els tab w ok ty own l xs F) (h' : Els tab w ok ty own l' xs' F') :
    Els tab w ok ty own (l ++ l') (xs ++ xs') (fun k c => if k < l.length then F k c else F' (k - l.length) c) := by
  have hg1 : ∀ k, k < l.length → (l ++ l').getD k .dead = l.getD k .dead := fun k hk => by simp only [List.getD, List.getElem?_append_left hk]
  have hg2 : ∀ k, ¬ k < l.length → (l ++ l').getD k .dead = l'.getD (k - l.length) .dead := fun k hk => by simp [List.getD, List.getElem?_append_right (Nat.le_of_not_lt hk)]
  have hx1 : ∀ k c, k < l.length → c < ty.kinds.length → (xs ++ xs').getD (k * ty.kinds.length + c) undef = xs.getD (k * ty.kinds.length + c) undef := fun k c hk hc => by
    have : k * ty.kinds.length + c < xs.length := by rw [h.len]; exact idx_lt hk hc
    simp only [List.getD, List.getElem?_append_left this]
  have hx2 : ∀ k c, ¬ k < l.length → c < ty.kinds.length → (xs ++ xs').getD (k * ty.kinds.length + c) undef = xs'.getD ((k - l.length) * ty.kinds.length + c) undef := fun k c hk hc => by
    have e : l.length * ty.kinds.length ≤ k * ty.kinds.length := Nat.mul_le_mul_right _ (Nat.le_of_not_lt hk)
    have : xs.length ≤ k * ty.kinds.length + c := by rw [h.len]; omega
    simp only [List.getD, List.getElem?_append_right this]
    rw [h.len, Nat.sub_mul, show k * ty.kinds.length + c - l.length * ty.kinds.length = k * ty.kinds.length - l.length * ty.kinds.length + c from by omega]
  refine ⟨by simp [h.len, h'.len, Nat.add_mul], fun k hk => ?_, fun ho k c hk hc => ?_, fun ho => ⟨fun k c => ?_, fun k c hk hc => ?_⟩⟩
  · by_cases hk' : k < l.length
    · rw [hg1 k hk']; exact h.shape k hk'
    · rw [hg2 k hk']; exact h'.shape _ (by simp at hk; omega)
  · by_cases hk' : k < l.length
    · rw [hg1 k hk', hx1 k c hk' hc, if_pos hk']; exact h.yes ho k c hk' hc
    · rw [hg2 k hk', hx2 k c hk' hc, if_neg hk']; exact h'.yes ho _ c (by simp at hk; omega) hc
  · split
    · exact (h.no ho).1 _ _
    · exact (h'.no ho).1 _ _
  · by_cases hk' : k < l.length
    · rw [hg1 k hk', hx1 k c hk' hc]; exact (h.no ho).2 k c hk' hc
    · rw [hg2 k hk', hx2 k c hk' hc]; exact (h'.no ho).2 _ c (by simp at hk; omega) hc
theorem getD_take' {α : Type} {l : List α} {n i : Nat} {d : α} (h : i < n) : (l.take n).getD i d = l.getD i d := by simp [List.getD, h]
theorem getD_drop' {α : Type} {l : List α} {n i : Nat} {d : α} : (l.drop n).getD i d = l.getD (n + i) d := by simp [List.getD]
theorem Els.take {w : World} {ok : Nat → Prop} {own : Bool} {l : List V} {ty : Ty} {xs : List Value} {F : Nat → Nat → List Nat} (h : Els tab w ok ty own l xs F) {n : Nat} (hn : n ≤ l.length) : Els tab w ok ty own (l.take n) (xs.take (n * ty.kinds.length)) F := by
  refine h.pick id (by rw [List.length_take, List.length_take, h.len, Nat.min_eq_left hn, Nat.min_eq_left (Nat.mul_le_mul_right _ hn)]) (fun k hk => by simp at hk; exact (by omega : k < l.length)) (fun k hk => ?_) fun k c hk hc => ?_
  · exact getD_take' (by simp at hk; omega)
  · exact getD_take' (idx_lt (by simp at hk; omega) hc)
theorem Els.drop {w : World} {ok : Nat → Prop} {own : Bool} {l : List V} {ty : Ty} {xs : List Value} {F : Nat → Nat → List Nat} (h : Els tab w ok ty own l xs F) (n : Nat) : Els tab w ok ty own (l.drop n) (xs.drop (n * ty.kinds.length)) (fun k c => F (n + k) c) := by
  refine h.pick (fun k => n + k) (by simp [h.len, Nat.sub_mul]) (fun k hk => by simp at hk; omega) (fun k hk => getD_drop') fun k c hk hc => ?_
  rw [getD_drop', Nat.add_mul, Nat.add_assoc]
def delV (l : List V) (i j : Int) : Option (List V) := bif decide (0 ≤ i) && (decide (i ≤ j) && (decide (j ≤ (l.length : Int)) && decide (l.length ≤ 9223372036854775807))) then some (l.take i.toNat ++ l.drop j.toNat) else none
def insV (bytes : Nat) (l : List V) (i : Int) (x : List V) : Option (List V) := bif decide (0 ≤ i) && (decide (i ≤ (l.length : Int)) && (decide (x.length = 1) && roomy (l.length + 1) bytes)) then some (l.take i.toNat ++ x ++ l.drop i.toNat) else none
theorem flatF_sub {n m n' m' : Nat} {F F' : Nat → Nat → List Nat} (h : ∀ k c, k < n' → c < m' → ∃ k', k' < n ∧ ∃ c', c' < m ∧ F' k c = F k' c') : ∀ g ∈ flatF n' m' F', g ∈ flatF n m F := fun g hg => by
  obtain ⟨k, hk, c, hc, hg⟩ := mem_flatF.1 hg
  obtain ⟨k', hk', c', hc', e⟩ := h k c hk hc
  exact mem_flatF.2 ⟨k', hk', c', hc', e ▸ hg⟩
theorem flatF_pick {n n' m : Nat} {F : Nat → Nat → List Nat} (φ : Nat → Nat) (hφ : ∀ k, k < n' → φ k < n) (hinj : ∀ k k', k < n' → k' < n' → φ k = φ k' → k = k') (h : (flatF n m F).Nodup) : (flatF n' m fun k c => F (φ k) c).Nodup := by
  rw [nodup_flatF] at h ⊢
  refine ⟨fun k c hk hc => h.1 _ _ (hφ k hk) hc, fun k c k' c' hk hc hk' hc' hne => h.2 _ _ _ _ (hφ k hk) hc (hφ k' hk') hc' ?_⟩
  rcases hne with hne | hne
  · exact .inl fun e => hne (hinj k k' hk hk' e)
  · exact .inr hne
end
end Go.Eng
namespace Go.Eng
variable {P : Program} {tab : Tab}
theorem topOf_slice (a : Option Addr) (n cap : Nat) : topOf (.slice a n cap) = match a, cap with | some a, _ + 1 => [a.block] | _, _ => [] := by
  cases a <;> cases cap <;> rfl
theorem els_move {w w' : World} {ok : Nat → Prop} {t n : List Nat} {v' : Value} {own : Bool} {l : List V} {ty : Ty} {xs : List Value} {F : Nat → Nat → List Nat} (h : Els tab w ok ty own l xs F)
    (hF : ∀ g ∈ flatF l.length ty.kinds.length F, g ∈ n) (hnd : (t ++ n).Nodup) (hok : ∀ g, ok g → g < w.heap.size ∧ g ∉ t) (hlt : ∀ g ∈ t ++ n, g < w.heap.size) (hk : KeptBut t w w') (htop : ∀ g ∈ topOf v', g ∈ t ∨ w.heap.size ≤ g) :
    Els tab w' (fun g => (ok g ∨ g ∈ t ++ n ∨ w.heap.size ≤ g) ∧ g < w'.heap.size ∧ g ∉ ([] ++ topOf v')) ty own l xs F := by
  refine h.keep (fun g hg => ⟨.inl hg, Nat.lt_of_lt_of_le (hok g hg).1 hk.size, fun hm => ?_⟩) (fun g hg => hk.block g (hok g hg).1 (hok g hg).2) fun i j hi hj g hg => ?_
  · rcases htop g (by simpa using hm) with h1 | h1
    · exact (hok g hg).2 h1
    · have := (hok g hg).1; omega
  · have hgn := hF g (mem_flatF.2 ⟨i, hi, j, hj, hg⟩)
    refine hk.block g (hlt g (List.mem_append_right _ hgn)) fun hm => ?_
    exact (List.nodup_append.1 hnd).2.2 g hm g hgn rfl
theorem after_mk {w w' : World} {ok : Nat → Prop} {args : List V} {vals : List Value} {t n : List Nat} {T : TypeId} {own : Bool} {r : List V} {v' : Value} {ty : Ty} {xs : List Value} {F : Nat → Nat → List Nat} {outs : List V} (ht : tab T = some ty)
    (hr : RowIs w' T ty.kinds.length r.length v' xs) (he : Els tab w' (fun g => (ok g ∨ g ∈ t ++ n ∨ w.heap.size ≤ g) ∧ g < w'.heap.size ∧ g ∉ ([] ++ topOf v')) ty own r xs F)
    (hO : ∀ R : V → Value → List Nat → List Nat → Prop, (∀ v, R .dead v [] []) → OutL R (lentPL args vals) outs [] []) (hnd : (t ++ n).Nodup) (hlt : ∀ g ∈ t ++ n, g < w.heap.size)
    (hF : ∀ g ∈ flatF r.length ty.kinds.length F, g ∈ n) (hFn : (flatF r.length ty.kinds.length F).Nodup) (hk : KeptBut t w w') (htop : ∀ g ∈ topOf v', g ∈ t ∨ w.heap.size ≤ g) :
    After tab w ok args vals t n (.rr T own r, outs) v' w' := by
  have hn1 : ∀ g ∈ flatF r.length ty.kinds.length F, g < w.heap.size ∧ g ∉ t := fun g hg => ⟨hlt g (List.mem_append_right _ (hF g hg)), fun hm => (List.nodup_append.1 hnd).2.2 g hm g (hF g hg) rfl⟩
  have hT : (topOf v').Nodup := by
    cases v' with
    | slice a n c => rw [topOf_slice]; split <;> simp
    | _ => simp [topOf]
  refine ⟨topOf v', flatF r.length ty.kinds.length F, [], [], .one (.one (.row (he.row ht hr))), hO _ fun v => .one (.tree (.dead _)), ?_, ?_, ?_, ?_, hk⟩
  · simp only [List.nil_append]
    rw [List.nodup_append]
    refine ⟨hT, hFn, fun a ha b hb e => ?_⟩
    subst e
    rcases htop a ha with h | h
    · exact (hn1 a hb).2 h
    · have := (hn1 a hb).1; omega
  · simpa using htop
  · intro g hg
    exact .inl (List.mem_append_right _ (hF g (by simpa using hg)))
  · intro g hg
    simp only [List.nil_append, List.mem_append] at hg
    rcases hg with hg | hg
    · exact hr.top_lt g hg
    · exact Nat.lt_of_lt_of_le (hn1 g hg).1 hk.size
theorem rq_int {w : World} {ok : Nat → Prop} {k : IntKind} {m : Int} {v : Value} {t n : List Nat} (h : Rq2 tab w ok (.int k m) v t n) : v = .int k m ∧ t = [] ∧ n = [] := by
  cases h with | one h => cases h with | tree h => cases h; exact ⟨rfl, rfl, rfl⟩
theorem rq_rr {w : World} {ok : Nat → Prop} {T : TypeId} {own : Bool} {l : List V} {v : Value} {t n : List Nat} (h : Rq2 tab w ok (.rr T own l) v t n) : RowT tab w ok T own l v n ∧ t = topOf v := by
  cases h with | one h => cases h with
    | tree h => cases h
    | row h => exact ⟨h, rfl⟩
theorem RowIs.slice {w : World} {T : TypeId} {sz N : Nat} {v : Value} {xs : List Value} (h : RowIs w T sz N v xs) : ∃ a cap, v = .slice a N cap ∧ N ≤ cap ∧ cap ≤ maxLen := by
  rcases h.2 with ⟨a, rfl, rfl⟩ | ⟨g, cap, cur, rfl, h1, h2, h3, h4, _⟩
  · exact ⟨a, 0, rfl, Nat.le_refl _, by simp [maxLen]⟩
  · exact ⟨_, cap, rfl, h3, h4⟩
theorem sum_del {f : FuncId} {T : TypeId} {ty : Ty} {own : Bool} {l r : List V} {i j : Int} (ht : tab T = some ty) (hD : DelOk P f T ty.kinds.length) (hS : DelSame P f) (hv : delV l i j = some r) :
    SumOk P tab f [.rr T own l, .int .i64 i, .int .i64 j] (.rr T own r, [.dead]) := by
  intro w ok vals t n hrq hnd hok hlt
  cases hrq with | @cons _ v t1 n1 _ vs1 ts1 ns1 hx hxs =>
  cases hxs with | @cons _ v2 t2 n2 _ vs2 ts2 ns2 hx2 hxs =>
  cases hxs with | @cons _ v3 t3 n3 _ vs3 ts3 ns3 hx3 hxs =>
  cases hxs
  obtain ⟨rfl, rfl, rfl⟩ := rq_int hx2
  obtain ⟨rfl, rfl, rfl⟩ := rq_int hx3
  obtain ⟨hrow, rfl⟩ := rq_rr hx
  simp only [List.append_nil] at hnd hok hlt ⊢
  unfold delV at hv
  rw [Bool.cond_eq_ite] at hv
  split at hv
  case isFalse => cases hv
  rename_i hb
  cases hv
  simp only [Bool.and_eq_true, decide_eq_true_eq] at hb
  obtain ⟨hi, hij, hjl, hl63⟩ := hb
  obtain ⟨i, rfl⟩ := Int.eq_ofNat_of_zero_le hi
  obtain ⟨j, rfl⟩ := Int.eq_ofNat_of_zero_le (Int.le_trans hi hij)
  have hij : i ≤ j := by omega
  have hjl : j ≤ l.length := by omega
  simp only [Int.toNat_natCast]
  obtain ⟨xs, F, hr, he, hn⟩ := hrow.els ht
  have hO : ∀ R : V → Value → List Nat → List Nat → Prop, (∀ v, R .dead v [] []) → OutL R (lentPL [V.rr T own l, .int .i64 (i : Int), .int .i64 (j : Int)] [v, .int .i64 (i : Int), .int .i64 (j : Int)]) [.dead] [] [] := fun R h =>
    (OutL.cons (p := (V.rr T own l, v)) (t := []) (n := []) trivial (h _) .nil : OutL R [(V.rr T own l, v)] [.dead] ([] ++ []) ([] ++ []))
  have hFn0 : (flatF l.length ty.kinds.length F).Nodup := by rw [← hn]; exact (List.nodup_append.1 hnd).2.1
  have hel := (he.take (n := i) (by omega)).append (he.drop j)
  have hF' : ∀ k c, (if k < (l.take i).length then F k c else F (j + (k - (l.take i).length)) c) = F (if k < i then k else j + (k - i)) c := fun k c => by
    have : (l.take i).length = i := by simp; omega
    rw [this]; split <;> rfl
  have hlen : (l.take i ++ l.drop j).length = l.length - (j - i) := by simp; omega
  have hφ : ∀ k, k < (l.take i ++ l.drop j).length → (if k < i then k else j + (k - i)) < l.length := fun k hk => by rw [hlen] at hk; split <;> omega
  have hsub : ∀ g ∈ flatF (l.take i ++ l.drop j).length ty.kinds.length (fun k c => if k < (l.take i).length then F k c else F (j + (k - (l.take i).length)) c), g ∈ n1 := by
    rw [hn]
    exact flatF_sub fun k c hk hc => ⟨_, hφ k hk, c, hc, hF' k c⟩
  have hnod : (flatF (l.take i ++ l.drop j).length ty.kinds.length (fun k c => if k < (l.take i).length then F k c else F (j + (k - (l.take i).length)) c)).Nodup := by
    have := flatF_pick (fun k => if k < i then k else j + (k - i)) hφ (fun k k' hk hk' e => by
      split at e <;> split at e <;> omega) hFn0
    simpa only [hF'] using this
  by_cases heq : i = j
  · subst heq
    obtain ⟨a, cap, rfl, h1, h2⟩ := hr.slice
    refine Calls.mono (hS a l.length cap i w hjl h1 h2) ?_
    rintro e w' ⟨rfl, hk⟩
    have hk' : KeptBut (topOf (.slice a l.length cap)) w w' := hk.mono (by simp)
    refine ⟨_, rfl, after_mk ht (xs := xs.take (i * ty.kinds.length) ++ xs.drop (i * ty.kinds.length)) ?_ (els_move hel hsub hnd hok hlt hk' fun g hg => .inl hg) hO hnd hlt hsub hnod hk' fun g hg => .inl hg⟩
    rw [List.take_append_drop, List.take_append_drop]
    refine hr.keep fun g hg => hk.block g (hlt g (List.mem_append_left _ hg)) (by simp)
  · rcases hr.2 with ⟨a, rfl, h0⟩ | ⟨g, cap, cur, rfl, hc, hg, hN, hm, hs, hx⟩
    · omega
    refine Calls.mono (hD g l.length cap i j cur w hg hs hN hm (by rw [hx]; exact he.one) (by omega) hjl) ?_
    rintro e w' ⟨rfl, cur', k1, k2, k3, k4⟩
    have htop : topOf (Value.slice (some ⟨g, 0, none⟩) (l.length - (j - i)) cap) = topOf (Value.slice (some ⟨g, 0, none⟩) l.length cap) := by rw [topOf_some _ _ _ hc, topOf_some _ _ _ hc]
    have hk' : KeptBut (topOf (Value.slice (some ⟨g, 0, none⟩) l.length cap)) w w' := by rw [topOf_some _ _ _ hc]; exact k4
    refine ⟨_, rfl, after_mk ht (xs := xs.take (i * ty.kinds.length) ++ xs.drop (j * ty.kinds.length)) ?_ (els_move hel hsub hnd hok hlt hk' fun g hg => .inl (htop ▸ hg)) hO hnd hlt hsub hnod hk' fun g hg => .inl (htop ▸ hg)⟩
    rw [hlen]
    exact rowIs_some hc k1 (by omega) hm k2 (by rw [k3, hx])
theorem sum_ins {f : FuncId} {T : TypeId} {ty : Ty} {own : Bool} {l x r : List V} {i : Int} (ht : tab T = some ty) (hI : InsOk P f T ty.kinds.length ty.bytes) (hv : insV ty.bytes l i x = some r) :
    SumOk P tab f [.rr T own l, .int .i64 i, .rr T own x] (.rr T own r, [.dead, .dead]) := by
  intro w ok vals t n hrq hnd hok hlt
  cases hrq with | @cons _ v t1 n1 _ vs1 ts1 ns1 hx hxs =>
  cases hxs with | @cons _ v2 t2 n2 _ vs2 ts2 ns2 hx2 hxs =>
  cases hxs with | @cons _ v3 t3 n3 _ vs3 ts3 ns3 hx3 hxs =>
  cases hxs
  obtain ⟨rfl, rfl, rfl⟩ := rq_int hx2
  obtain ⟨hrow, rfl⟩ := rq_rr hx
  obtain ⟨hrow3, rfl⟩ := rq_rr hx3
  simp only [List.append_nil, List.nil_append] at hnd hok hlt ⊢
  unfold insV at hv
  rw [Bool.cond_eq_ite] at hv
  split at hv
  case isFalse => cases hv
  rename_i hb
  cases hv
  simp only [Bool.and_eq_true, decide_eq_true_eq, roomy] at hb
  obtain ⟨hi, hil, hx1, hr63, hrb⟩ := hb
  obtain ⟨i, rfl⟩ := Int.eq_ofNat_of_zero_le hi
  have hil : i ≤ l.length := by omega
  simp only [Int.toNat_natCast]
  obtain ⟨xs, F, hr, he, hn⟩ := hrow.els ht
  obtain ⟨ys, G, hr3, he3, hn3⟩ := hrow3.els ht
  subst hn; subst hn3
  have hO : ∀ R : V → Value → List Nat → List Nat → Prop, (∀ v, R .dead v [] []) → OutL R (lentPL [V.rr T own l, .int .i64 (i : Int), .rr T own x] [v, .int .i64 (i : Int), v3]) [.dead, .dead] [] [] := fun R h =>
    (OutL.cons (p := (V.rr T own l, v)) (t := []) (n := []) trivial (h _) (OutL.cons (p := (V.rr T own x, v3)) (t := []) (n := []) trivial (h _) .nil) : OutL R [(V.rr T own l, v), (V.rr T own x, v3)] [.dead, .dead] ([] ++ ([] ++ [])) ([] ++ ([] ++ [])))
  have hel := ((he.take (n := i) hil).append he3).append (he.drop i)
  have hli : (l.take i).length = i := by simp; omega
  have hlix : (l.take i ++ x).length = i + 1 := by simp [hx1]; omega
  have hlen : (l.take i ++ x ++ l.drop i).length = l.length + 1 := by simp [hx1]; omega
  obtain ⟨F', hF'⟩ : ∃ F' : Nat → Nat → List Nat, F' = fun k c => if k < (l.take i ++ x).length then (if k < (l.take i).length then F k c else G (k - (l.take i).length) c) else F (i + (k - (l.take i ++ x).length)) c := ⟨_, rfl⟩
  rw [← hF'] at hel
  have c1 : ∀ k c, k < i → F' k c = F k c := fun k c hk => by rw [hF']; simp only [hlix, hli]; rw [if_pos (by omega), if_pos hk]
  have c2 : ∀ c, F' i c = G 0 c := fun c => by rw [hF']; simp only [hlix, hli]; rw [if_pos (by omega), if_neg (by omega), Nat.sub_self]
  have c3 : ∀ k c, i < k → F' k c = F (k - 1) c := fun k c hk => by rw [hF']; simp only [hlix, hli]; rw [if_neg (by omega)]; congr 1; omega
  obtain ⟨⟨hT1, hT2, hT3⟩, ⟨hN1, hN2, hN3⟩, hTN⟩ := (List.nodup_append.1 hnd).imp List.nodup_append.1 fun h => h.imp List.nodup_append.1 id
  have hFn := nodup_flatF.1 hN1
  have hGn := nodup_flatF.1 hN2
  have hFG : ∀ k c c' g, k < l.length → c < ty.kinds.length → c' < ty.kinds.length → g ∈ F k c → g ∈ G 0 c' → False := fun k c c' g hk hc hc' h1 h2 => hN3 g (mem_flatF.2 ⟨k, hk, c, hc, h1⟩) g (mem_flatF.2 ⟨0, by omega, c', hc', h2⟩) rfl
  have hsub : ∀ g ∈ flatF (l.take i ++ x ++ l.drop i).length ty.kinds.length F', g ∈ flatF l.length ty.kinds.length F ++ flatF x.length ty.kinds.length G := fun g hg0 => by
    obtain ⟨k, hk, c, hc, hg⟩ := mem_flatF.1 hg0
    clear hg0
    rw [hlen] at hk
    rcases Nat.lt_trichotomy k i with h | h | h
    · rw [c1 k c h] at hg; exact List.mem_append_left _ (mem_flatF.2 ⟨k, by omega, c, hc, hg⟩)
    · subst h; rw [c2 c] at hg; exact List.mem_append_right _ (mem_flatF.2 ⟨0, by omega, c, hc, hg⟩)
    · rw [c3 k c h] at hg; exact List.mem_append_left _ (mem_flatF.2 ⟨k - 1, by omega, c, hc, hg⟩)
  have hnod : (flatF (l.take i ++ x ++ l.drop i).length ty.kinds.length F').Nodup := by
    rw [nodup_flatF, hlen]
    refine ⟨fun k c hk hc => ?_, fun k c k' c' hk hc hk' hc' hne g hg hg' => ?_⟩
    · rcases Nat.lt_trichotomy k i with h | h | h
      · rw [c1 k c h]; exact hFn.1 k c (by omega) hc
      · subst h; rw [c2 c]; exact hGn.1 0 c (by omega) hc
      · rw [c3 k c h]; exact hFn.1 _ c (by omega) hc
    · rcases Nat.lt_trichotomy k i with h | h | h <;> rcases Nat.lt_trichotomy k' i with h' | h' | h'
      · rw [c1 k c h] at hg; rw [c1 k' c' h'] at hg'; exact hFn.2 k c k' c' (by omega) hc (by omega) hc' hne g hg hg'
      · subst h'; rw [c1 k c h] at hg; rw [c2 c'] at hg'; exact hFG k c c' g (by omega) hc hc' hg hg'
      · rw [c1 k c h] at hg; rw [c3 k' c' h'] at hg'; exact hFn.2 k c (k' - 1) c' (by omega) hc (by omega) hc' (.inl (by omega)) g hg hg'
      · subst h; rw [c2 c] at hg; rw [c1 k' c' h'] at hg'; exact hFG k' c' c g (by omega) hc' hc hg' hg
      · subst h; subst h'; rw [c2 c] at hg; rw [c2 c'] at hg'; exact hGn.2 0 c 0 c' (by omega) hc (by omega) hc' (.inr (by rcases hne with e | e; exact absurd rfl e; exact e)) g hg hg'
      · subst h; rw [c2 c] at hg; rw [c3 k' c' h'] at hg'; exact hFG (k' - 1) c' c g (by omega) hc' hc hg' hg
      · rw [c3 k c h] at hg; rw [c1 k' c' h'] at hg'; exact hFn.2 (k - 1) c k' c' (by omega) hc (by omega) hc' (.inl (by omega)) g hg hg'
      · subst h'; rw [c3 k c h] at hg; rw [c2 c'] at hg'; exact hFG (k - 1) c c' g (by omega) hc hc' hg hg'
      · rw [c3 k c h] at hg; rw [c3 k' c' h'] at hg'
        exact hFn.2 (k - 1) c (k' - 1) c' (by omega) hc (by omega) hc' (by rcases hne with e | e; exact .inl (by omega); exact .inr e) g hg hg'
  rw [hx1] at hr3
  refine Calls.mono (hI w v v3 l.length i xs ys hr hr3 (fun g hg hg' => hT3 g hg g hg' rfl) he.one he3.one hil hrb hr63) ?_
  rintro e w' ⟨v', rfl, k1, k2, k3⟩
  have hk' : KeptBut (topOf v ++ topOf v3) w w' := k2.mono fun g hg => List.mem_append_left _ hg
  have htop : ∀ g ∈ topOf v', g ∈ topOf v ++ topOf v3 ∨ w.heap.size ≤ g := fun g hg => (k3 g hg).imp (List.mem_append_left _) id
  exact ⟨v', rfl, after_mk ht (by rw [hlen]; exact k1) (els_move hel hsub hnd hok hlt hk' htop) hO hnd hlt hsub hnod hk' htop⟩
def enDel (hB : Base P tab) {f : FuncId} {fn : Func} (hf : P.funcs[f]? = some fn) (hb : (!(fn.name == "runtime.NumGoroutine") && fn.body.isSome) = true) (T : TypeId) {ty : Ty} (ht : tab T = some ty) (own : Bool) (hD : DelOk P f T ty.kinds.length) (hS : DelSame P f) (par : List (Option TypeId)) : En P tab :=
  { f := f
    s := fun a => bif argsOk [.one (.rr T own), .one (.int .i64), .one (.int .i64)] a then some ((delV (rd a 0).L (rd a 1).I (rd a 2).I).isSome, (V.rr T own ((delV (rd a 0).L (rd a 1).I (rd a 2).I).getD default), [V.dead])) else none
    ok := by
      intro args r h
      cases hs : argsOk [.one (.rr T own), .one (.int .i64), .one (.int .i64)] args with
      | false => rw [hs] at h; cases h
      | true =>
        rw [hs] at h
        simp only [cond_true, Option.some.injEq, Prod.mk.injEq] at h
        obtain ⟨h1, h2⟩ := h
        obtain ⟨x, hx⟩ := Option.isSome_iff_exists.1 h1
        rw [hx] at h2
        have ha := argsMk_ok (pre := []) hs
        simp only [List.nil_append, List.length_nil, argsMk, S2.mk, S1.mk] at ha
        rw [← ha, ← h2]
        exact sum_del ht hD hS hx
    en := enters_of hf hb, par := par, wr := true }
def enIns (hB : Base P tab) {f : FuncId} {fn : Func} (hf : P.funcs[f]? = some fn) (hb : (!(fn.name == "runtime.NumGoroutine") && fn.body.isSome) = true) (T : TypeId) {ty : Ty} (ht : tab T = some ty) (own : Bool) (bytes : Nat) (hbytes : ty.bytes = bytes) (hI : InsOk P f T ty.kinds.length ty.bytes) (par : List (Option TypeId)) : En P tab :=
  { f := f
    s := fun a => bif argsOk [.one (.rr T own), .one (.int .i64), .one (.rr T own)] a then some ((insV bytes (rd a 0).L (rd a 1).I (rd a 2).L).isSome, (V.rr T own ((insV bytes (rd a 0).L (rd a 1).I (rd a 2).L).getD default), [V.dead, V.dead])) else none
    ok := by
      intro args r h
      cases hs : argsOk [.one (.rr T own), .one (.int .i64), .one (.rr T own)] args with
      | false => rw [hs] at h; cases h
      | true =>
        rw [hs] at h
        simp only [cond_true, Option.some.injEq, Prod.mk.injEq] at h
        obtain ⟨h1, h2⟩ := h
        obtain ⟨x, hx⟩ := Option.isSome_iff_exists.1 h1
        rw [hx] at h2
        have ha := argsMk_ok (pre := []) hs
        simp only [List.nil_append, List.length_nil, argsMk, S2.mk, S1.mk] at ha
        rw [← ha, ← h2]
        subst hbytes
        exact sum_ins ht hI hx
    en := enters_of hf hb, par := par, wr := true }
end Go.Eng
namespace Go.Eng
variable {P : Program} {tab : Tab}
def cmpV (a b : List V) : Int := bif ltList (a.map normB) (b.map normB) then -1 else bif eqList (a.map normB) (b.map normB) then 0 else 1
def growV (n : Int) : Option (List V) := bif decide (0 ≤ n) && decide (n ≤ 1099511627776) then some [] else none
theorem compareBytes_lt : ∀ a b : List UInt8, Lib.compareBytes a b = if Op.bytesLess a b = true then -1 else if (a == b) = true then 0 else 1
  | [], [] => rfl
  | [], _ :: _ => rfl
  | _ :: _, [] => rfl
  | x :: a, y :: b => by
    have ih := compareBytes_lt a b
    unfold Lib.compareBytes
    simp only [Op.bytesLess, List.cons_beq_cons, Bool.or_eq_true, Bool.and_eq_true, decide_eq_true_eq]
    by_cases h1 : x < y
    · simp [h1]
    · by_cases h2 : y < x
      · have h3 : x ≠ y := fun e => h1 (e ▸ h2)
        simp [h1, h2, h3]
      · have h3 : x = y := UInt8.le_antisymm (UInt8.not_lt.1 h2) (UInt8.not_lt.1 h1)
        subst h3
        simp [ih]
theorem bytesOf_inl {w : World} {ok : Nat → Prop} {e : TypeId} {et : Ty} (he : tab e = some et) (ha : et.agg = false) (hk : et.kinds = [.int .u8]) {l : List V} {v : Value} (h : Rp tab w ok (.inl e l) v) :
    ∃ s, (Extern.Bytes.bytesOf v).run P w = .ok s w ∧ strOf s = l.map normB := by
  cases h with | inl _ _ ty a cap g off cv h1 h2 h3 h4 h5 h6 =>
  obtain rfl : et = ty := Option.some.inj (he.symm.trans h1)
  by_cases hl : l = []
  · subst hl
    cases a with
    | none => exact ⟨.empty, by simp [Extern.Bytes.bytesOf], rfl⟩
    | some a => exact ⟨.empty, by simp [Extern.Bytes.bytesOf, Extern.Bytes.loadBytes], rfl⟩
  · obtain ⟨rfl, -⟩ := h3 hl
    have hel : ∀ i, i < l.length → cv i 0 = .int .u8 ((l.getD i .dead).I) := fun i hi => by
      have hs := h4 i hi
      have hc0 : (l.getD i .dead).cell 0 = l.getD i .dead := by
        have hna := hs.2.2.1 ha
        cases hx : l.getD i .dead <;> first | rfl | exact absurd hx (hna _)
      have hkk := hs.2.2.2 0 (by rw [hk]; exact Nat.one_pos)
      have hr := h6 i 0 hi (by rw [hk]; exact Nat.one_pos)
      rw [hk] at hkk
      rw [hc0] at hkk hr
      cases hx : l.getD i .dead <;> rw [hx] at hkk hr <;> simp [kindOk] at hkk
      subst hkk
      rw [hr.int_eq]; rfl
    have hcell : ∀ j x, (l.map V.I)[j]? = some x → w.cell? ((⟨g, off, none⟩ : Addr).add j) = some (.int .u8 x) := fun j x hj => by
      have hlt : j < l.length := by have := (List.getElem?_eq_some_iff.1 hj).1; simpa using this
      have := h5 j 0 hlt (by rw [hk]; exact Nat.one_pos)
      rw [hk] at this
      rw [Addr.add_none]
      simp only [List.length_cons, List.length_nil, Nat.zero_add, Nat.mul_one, Nat.add_zero] at this
      rw [this, hel j hlt]
      have e2 := (List.getElem?_eq_some_iff.1 hj).2
      simp at e2
      rw [← e2]; simp [List.getD, hlt]
    have hrun := Lib.run_loadBytesX (P := P) w (l.map V.I) ⟨g, off, none⟩ .empty hcell
    rw [List.length_map] at hrun
    refine ⟨_, by simp only [Extern.Bytes.bytesOf]; exact hrun, ?_⟩
    simp only [strOf, Lib.bytesOf]
    simp
    intro x _
    simp [normB]
theorem cmp_spec {a b : ByteArray} {x y : List V} (ha : strOf a = x) (hb : strOf b = y) : Extern.BytealgCompare.cmp a b = bif ltList x y then -1 else bif eqList x y then 0 else 1 := by
  rw [Lib.cmp_eq, compareBytes_lt, ← ha, ← hb, strOf_lt, strOf_inj]
  simp only [Bool.cond_eq_ite]
def CmpOk (P : Program) (f : FuncId) : Prop := ∀ (v1 v2 : Value) (c : Int) (w : World), (Extern.BytealgCompare.compare #[v1, v2]).run P w = .ok (.int .i64 c) w → Calls P f #[v1, v2] w fun e w' => e = .returned (.int .i64 c) ∧ KeptBut [] w w'
def GrowOk (P : Program) (f : FuncId) (T : TypeId) : Prop := ∀ (a : Option Addr) (n : Nat) (w : World), n ≤ 1099511627776 → Calls P f #[.slice a 0 0, .int .i64 n] w fun e w' => ∃ v', e = .returned v' ∧ RowIs w' T 1 0 v' [] ∧ KeptBut [] w w' ∧ ∀ g ∈ topOf v', w.heap.size ≤ g
theorem rq_inl {w : World} {ok : Nat → Prop} {T : TypeId} {l : List V} {v : Value} {t n : List Nat} (h : Rq2 tab w ok (.inl T l) v t n) : Rp tab w ok (.inl T l) v ∧ t = [] ∧ n = [] := by
  cases h with | one h => cases h with | tree h => exact ⟨h, rfl, rfl⟩
theorem sum_cmp {f : FuncId} {e : TypeId} {et : Ty} (he : tab e = some et) (ha : et.agg = false) (hk : et.kinds = [.int .u8]) (hC : CmpOk P f) (a b : List V) : SumOk P tab f [.inl e a, .inl e b] (.int .i64 (cmpV a b), []) := by
  intro w ok vals t n hrq hnd hok hlt
  cases hrq with | @cons _ v t1 n1 _ vs1 ts1 ns1 hx hxs =>
  cases hxs with | @cons _ v2 t2 n2 _ vs2 ts2 ns2 hx2 hxs =>
  cases hxs
  obtain ⟨r1, rfl, rfl⟩ := rq_inl hx
  obtain ⟨r2, rfl, rfl⟩ := rq_inl hx2
  obtain ⟨s1, e1, e2⟩ := bytesOf_inl (P := P) he ha hk r1
  obtain ⟨s2, e3, e4⟩ := bytesOf_inl (P := P) he ha hk r2
  have hrun : (Extern.BytealgCompare.compare #[v, v2]).run P w = .ok (.int .i64 (cmpV a b)) w := by
    change Sem.run P (do pure (goInt (Extern.BytealgCompare.cmp (← Extern.Bytes.bytesOf v) (← Extern.Bytes.bytesOf v2)))) w = _
    simp only [Sem.run_bind, e1, e3, Result.andThen_ok, Sem.run_pure]
    rw [cmp_spec e2 e4]
    rfl
  refine (hC v v2 _ w hrun).mono ?_
  rintro e' w' ⟨rfl, hkp⟩
  exact ⟨_, rfl, [], [], [], [], .one (.one (.tree (.int _ _))), .nil, by simp, by simp, by simp, by simp, hkp.mono (by simp)⟩
theorem rq_nil {w : World} {ok : Nat → Prop} {T : TypeId} {v : Value} {t n : List Nat} (h : Rq2 tab w ok (.nil T) v t n) : (∃ a, v = .slice a 0 0) ∧ t = [] ∧ n = [] := by
  cases h with | one h => cases h with | tree h => cases h with | nil _ a => exact ⟨⟨a, rfl⟩, rfl, rfl⟩
theorem sum_grow {f : FuncId} {T T0 : TypeId} {ty : Ty} (ht : tab T = some ty) (hk1 : ty.kinds.length = 1) (hG : GrowOk P f T) {n : Int} {r : List V} (hv : growV n = some r) : SumOk P tab f [.nil T0, .int .i64 n] (.rr T true r, []) := by
  intro w ok vals t n' hrq hnd hok hlt
  cases hrq with | @cons _ v t1 n1 _ vs1 ts1 ns1 hx hxs =>
  cases hxs with | @cons _ v2 t2 n2 _ vs2 ts2 ns2 hx2 hxs =>
  cases hxs
  obtain ⟨⟨a, rfl⟩, rfl, rfl⟩ := rq_nil hx
  obtain ⟨rfl, rfl, rfl⟩ := rq_int hx2
  unfold growV at hv
  rw [Bool.cond_eq_ite] at hv
  split at hv
  case isFalse => cases hv
  rename_i hb
  cases hv
  simp only [Bool.and_eq_true, decide_eq_true_eq] at hb
  obtain ⟨m, rfl⟩ := Int.eq_ofNat_of_zero_le hb.1
  refine (hG a m w (by omega)).mono ?_
  rintro e' w' ⟨v', rfl, k1, k2, k3⟩
  refine ⟨v', rfl, after_mk ht (F := fun _ _ => []) (by rw [hk1]; exact k1) ⟨by simp, by simp, by simp, by simp⟩ (fun R _ => .nil) (by simp) (by simp) (by simp [flatF]) (by simp [flatF]) (k2.mono (by simp)) fun g hg => .inr (k3 g hg)⟩
def enCmp (hB : Base P tab) {f : FuncId} {fn : Func} (hf : P.funcs[f]? = some fn) (hb : (!(fn.name == "runtime.NumGoroutine") && fn.body.isSome) = true) (e : TypeId) {et : Ty} (he : tab e = some et) (ha : et.agg = false) (hk : et.kinds = [.int .u8]) (hC : CmpOk P f) (par : List (Option TypeId)) : En P tab :=
  { f := f
    s := fun a => bif argsOk [.one (.inl e), .one (.inl e)] a then some (true, (V.int .i64 (cmpV (rd a 0).L (rd a 1).L), [])) else none
    ok := by
      intro args r h
      cases hs : argsOk [.one (.inl e), .one (.inl e)] args with
      | false => rw [hs] at h; cases h
      | true =>
        rw [hs] at h
        simp only [cond_true, Option.some.injEq, Prod.mk.injEq, true_and] at h
        have h2 := h
        have ha' := argsMk_ok (pre := []) hs
        simp only [List.nil_append, List.length_nil, argsMk, S2.mk, S1.mk] at ha'
        rw [← ha', ← h2]
        exact sum_cmp he ha hk hC _ _
    en := enters_of hf hb, par := par, wr := false }
def enGrow (hB : Base P tab) {f : FuncId} {fn : Func} (hf : P.funcs[f]? = some fn) (hb : (!(fn.name == "runtime.NumGoroutine") && fn.body.isSome) = true) (T T0 : TypeId) {ty : Ty} (ht : tab T = some ty) (hk : ty.kinds.length = 1) (hG : GrowOk P f T) (par : List (Option TypeId)) : En P tab :=
  { f := f
    s := fun a => bif argsOk [.one (.nil T0), .one (.int .i64)] a then some ((growV (rd a 1).I).isSome, (V.rr T true ((growV (rd a 1).I).getD default), [])) else none
    ok := by
      intro args r h
      cases hs : argsOk [.one (.nil T0), .one (.int .i64)] args with
      | false => rw [hs] at h; cases h
      | true =>
        rw [hs] at h
        simp only [cond_true, Option.some.injEq, Prod.mk.injEq] at h
        obtain ⟨h1, h2⟩ := h
        obtain ⟨x, hx⟩ := Option.isSome_iff_exists.1 h1
        rw [hx] at h2
        have ha := argsMk_ok (pre := []) hs
        simp only [List.nil_append, List.length_nil, argsMk, S2.mk, S1.mk] at ha
        rw [← ha, ← h2]
        exact sum_grow ht hk hG hx
    en := enters_of hf hb, par := par, wr := false }
end Go.Eng
namespace Go.Eng
variable {P : Program} {tab : Tab}
structure Reads (P : Program) (w : World) (sz m : Nat) (v : Value) (ys : List Value) : Prop where
  len : ys.length = m * sz
  one : OneL ys
  lenOf : ∀ W, (Builtin.lenOf v).run P W = .ok m W
  cells : ∀ W : World, (∀ g, g < w.heap.size → W.heap[g]? = w.heap[g]?) → (Builtin.firstCells sz m v).run P W = .ok ys.toArray W
theorem reads_inl {w : World} {ok : Nat → Prop} {T : TypeId} {ty : Ty} (ht : tab T = some ty) {l : List V} {v : Value} (h : Rp tab w ok (.inl T l) v) (hok : ∀ g, ok g → g < w.heap.size) :
    ∃ ys, Reads P w ty.kinds.length l.length v ys ∧ Els tab w ok ty false l ys (fun _ _ => []) := by
  cases h with | inl _ _ ty' a cap g off cv h1 h2 h3 h4 h5 h6 =>
  obtain rfl : ty = ty' := Option.some.inj (ht.symm.trans h1)
  obtain ⟨ys, hys⟩ : ∃ ys, ys = (List.range (l.length * ty.kinds.length)).map fun k => cv (k / ty.kinds.length) (k % ty.kinds.length) := ⟨_, rfl⟩
  have hlen : ys.length = l.length * ty.kinds.length := by rw [hys]; simp
  have hget : ∀ i j, i < l.length → j < ty.kinds.length → ys.getD (i * ty.kinds.length + j) undef = cv i j := fun i j hi hj => by
    have hlt := idx_lt hi hj
    have e1 : (i * ty.kinds.length + j) / ty.kinds.length = i := by
      rw [Nat.mul_comm, Nat.mul_add_div (by omega), Nat.div_eq_of_lt hj, Nat.add_zero]
    have e2 : (i * ty.kinds.length + j) % ty.kinds.length = j := by
      rw [Nat.mul_comm, Nat.mul_add_mod, Nat.mod_eq_of_lt hj]
    rw [hys]
    simp [List.getD, List.getElem?_map, List.getElem?_range hlt, e1, e2]
  have hel : Els tab w ok ty false l ys (fun _ _ => []) := ⟨hlen, h4, fun h => (by cases h), fun _ => ⟨fun _ _ => rfl, fun i j hi hj => by rw [hget i j hi hj]; exact h6 i j hi hj⟩⟩
  refine ⟨ys, ⟨hlen, hel.one, fun W => by simp [Builtin.lenOf], fun W hW => ?_⟩, hel⟩
  by_cases hl : l = []
  · subst hl
    have : ys = [] := List.eq_nil_of_length_eq_zero (by simpa using hlen)
    subst this
    cases a <;> simp [Builtin.firstCells, loadCells, loadCellsFrom]
  · obtain ⟨rfl, hg⟩ := h3 hl
    refine run_firstCells_some W ty.kinds.length l.length ⟨g, off, none⟩ _ _ ys hlen fun k v hk => ?_
    have hlt : k < l.length * ty.kinds.length := by have := (List.getElem?_eq_some_iff.1 hk).1; omega
    obtain ⟨d1, d2, d3⟩ := divmod_idx hlt
    have e := hget _ _ d1 d2
    rw [d3] at e
    have hc := h5 _ _ d1 d2
    rw [Addr.add_none, World.cell?_of_block (w := w) (hW g (hok g hg)), show off + k = off + k / ty.kinds.length * ty.kinds.length + k % ty.kinds.length from by omega, hc, ← e]
    simp [List.getD, hk]
theorem append_lit {w : World} {t e : TypeId} {ty : Ty} (hu : P.underlying t = some (.slice e)) (hty : TyOk P tab e ty) (hk : ty.kinds.length = 1) (hb : ty.bytes = 1) {C : Array Value} (hC : OneL C.toList) (h0 : 0 < C.size) {W : World} {N : Nat} (hN : W.heap[N]? = some (.cells C e (C.size, C.size + 1)))
    {m : Nat} {v : Value} {ys : List Value} (hv : Reads P w 1 m v ys) (hW : ∀ g, g < w.heap.size → W.heap[g]? = w.heap[g]?) (hm : 0 < m) (hbig : C.size + m ≤ 1099511627776) (ot : TypeId) :
    ∃ v' W', (Builtin.append_ #[t, t] ot #[.slice (some ⟨N, 0, none⟩) C.size C.size, v]).run P W = .ok v' W' ∧ RowIs W' e 1 (C.size + m) v' (C.toList ++ ys) ∧ KeptBut [] W W' ∧ ∀ g ∈ topOf v', g = W.heap.size := by
  obtain ⟨i, z, hi, hs, hbb, hz, hzc, -⟩ := hty.info
  have hzs : z.cells.size = 1 := by rw [← Array.length_toList, hzc, List.length_map, hk]
  rw [hk] at hs
  have hold : (Builtin.firstCells i.size C.size (.slice (some ⟨N, 0, none⟩) C.size C.size)).run P W.drew = .ok C.toList.toArray W.drew := by
    rw [hs]
    refine run_firstCells_some W.drew 1 C.size ⟨N, 0, none⟩ C.size C.size C.toList (by simp) fun j u hj => ?_
    rw [Addr.add_none, Nat.zero_add]
    have hlt : j < C.size := by have := (List.getElem?_eq_some_iff.1 hj).1; simpa using this
    have e2 := (List.getElem?_eq_some_iff.1 hj).2
    simp at e2
    have : W.drew.heap[N]? = some (.cells C e (C.size, C.size + 1)) := hN
    simp [World.cell?, this, hlt, e2]
  have hsrc : Src P i.size t v m ys W := ⟨.inl ⟨e, hu⟩, hv.lenOf, by rw [hs]; exact hv.cells W hW, by rw [hs]; exact hv.cells W.drew hW, by rw [hs]; exact hv.len, hv.one⟩
  have hrun := run_append_grow_src W t t ot e i z hu hi hz (some ⟨N, 0, none⟩) C.size C.size C.toList hold v m ys hsrc (by omega) (by omega) (by rw [hbb, hb]; exact growslice_fits (by omega) (by omega))
  have hG := grownCap_ge W (C.size + m) C.size e
  have hGm := grownCap_le_maxLen W (C.size + m) C.size e (by unfold maxLen; omega)
  have hyl := hv.len
  refine ⟨_, _, hrun, rowIs_some (by omega) (heap_alloc_new W.drew _) hG hGm ?_ ?_, (KeptBut.refl _ W).drew.alloc _, fun g hg => ?_⟩
  · simp only [Array.size_append, List.size_toArray, size_zeroCells, hzs, List.length_append, Array.length_toList]; omega
  · rw [Array.toList_append]
    exact List.take_left' (by simp; omega)
  · rw [topOf_some _ _ _ (by omega)] at hg; simpa using hg
def KeyOk (P : Program) (f : FuncId) (T : TypeId) (C : List Value) (L : Value) : Prop := ∀ (w : World) (v1 v2 : Value) (m k : Nat) (ys zs : List Value), Reads P w 1 m v1 ys → Reads P w 1 k v2 zs → m ≤ 1048576 → k ≤ 1048576 →
  Calls P f #[v1, v2] w fun e w' => ∃ v', e = .returned v' ∧ RowIs w' T 1 (4 + m + 1 + k) v' (C ++ ys ++ [L] ++ zs) ∧ KeptBut [] w w' ∧ ∀ g ∈ topOf v', w.heap.size ≤ g
end Go.Eng
namespace Go.Eng
theorem heap_alloc_sz (w : World) (o : Obj) : (w.alloc o).heap.size = w.heap.size + 1 := by
  show (w.heap.push o).size = _
  simp
theorem heap_alloc_mk (w : World) (o : Obj) : (w.alloc o).heap[w.heap.size]? = some o := by
  show (w.heap.push o)[w.heap.size]? = _
  simp
end Go.Eng
namespace Go.Eng
variable {P : Program} {tab : Tab}
def svcL : List V := [.int .u8 115, .int .u8 118, .int .u8 99, .int .u8 47]
def keyV (a b : List V) : Option (List V) := bif decide (a.length ≤ 1048576) && decide (b.length ≤ 1048576) then some (svcL ++ a ++ [.int .u8 47] ++ b) else none
theorem Els.flat {w w' : World} {ok ok' : Nat → Prop} {ty : Ty} {l : List V} {xs : List Value} {F : Nat → Nat → List Nat} (hk : ty.kinds.all Ck.flat = true) (h : Els tab w ok ty false l xs F) : Els tab w' ok' ty true l xs (fun _ _ => []) := by
  refine ⟨h.len, h.shape, fun _ i j hi hj => ?_, fun h => (by cases h)⟩
  have hkj : (ty.kinds.getD j .other).flat = true := by
    rw [getD_eq _ _ _ hj]
    exact List.all_eq_true.1 hk _ (List.getElem_mem hj)
  have := kindOk_ro ((h.shape i hi).2.2.2 j hj) hkj ((h.no rfl).2 i j hi hj)
  exact this.keep (by simp)
theorem els_bytes {w : World} {ok : Nat → Prop} {ty : Ty} (ha : ty.agg = false) (hk : ty.kinds = [.int .u8]) (ns : List Int) : Els tab w ok ty true (ns.map (V.int .u8)) (ns.map (Value.int .u8)) (fun _ _ => []) := by
  have hg : ∀ i, i < (ns.map (V.int .u8)).length → (ns.map (V.int .u8)).getD i .dead = .int .u8 (ns.getD i 0) := fun i hi => by
    have : i < ns.length := by simpa using hi
    simp [List.getD, this]
  refine ⟨by rw [hk]; simp, fun i hi => ?_, fun _ i j hi hj => ?_, fun h => (by cases h)⟩
  · rw [hg i hi]
    refine ⟨by rw [hk]; rfl, fun hc => (by rw [ha] at hc; cases hc), fun _ cs hc => (by cases hc), fun j hj => ?_⟩
    rw [hk] at hj ⊢
    have : j = 0 := by simpa using hj
    subst this; rfl
  · rw [hk] at hj
    have : j = 0 := by simpa using hj
    subst this
    rw [hg i hi, hk]
    have hi' : i < ns.length := by simpa using hi
    have e : (ns.map (Value.int .u8)).getD (i * [Ck.int .u8].length + 0) undef = .int .u8 (ns.getD i 0) := by
      rw [show i * [Ck.int IntKind.u8].length + 0 = i from by simp]
      simp [List.getD, hi']
    rw [e]; exact .int _ _
theorem sum_key {f : FuncId} {e : TypeId} {et : Ty} (he : tab e = some et) (ha : et.agg = false) (hk : et.kinds = [.int .u8]) (hK : KeyOk P f e [.int .u8 115, .int .u8 118, .int .u8 99, .int .u8 47] (.int .u8 47)) {a b r : List V} (hv : keyV a b = some r) :
    SumOk P tab f [.inl e a, .inl e b] (.rr e true r, []) := by
  intro w ok vals t n hrq hnd hok hlt
  cases hrq with | @cons _ v t1 n1 _ vs1 ts1 ns1 hx hxs =>
  cases hxs with | @cons _ v2 t2 n2 _ vs2 ts2 ns2 hx2 hxs =>
  cases hxs
  obtain ⟨r1, rfl, rfl⟩ := rq_inl hx
  obtain ⟨r2, rfl, rfl⟩ := rq_inl hx2
  unfold keyV at hv
  rw [Bool.cond_eq_ite] at hv
  split at hv
  case isFalse => cases hv
  rename_i hb
  cases hv
  simp only [Bool.and_eq_true, decide_eq_true_eq] at hb
  obtain ⟨ys, hr1, he1⟩ := reads_inl (P := P) he r1 fun g hg => (hok g hg).1
  obtain ⟨zs, hr2, he2⟩ := reads_inl (P := P) he r2 fun g hg => (hok g hg).1
  have hk1 : et.kinds.length = 1 := by rw [hk]; rfl
  rw [hk1] at hr1 hr2
  have hfl : et.kinds.all Ck.flat = true := by rw [hk]; rfl
  refine (hK w v v2 a.length b.length ys zs hr1 hr2 hb.1 hb.2).mono ?_
  rintro e' w' ⟨v', rfl, k1, k2, k3⟩
  have hel := (((els_bytes (tab := tab) (w := w') (ok := fun g => (ok g ∨ g ∈ [] ++ ([] ++ []) ++ ([] ++ ([] ++ [])) ∨ w.heap.size ≤ g) ∧ g < w'.heap.size ∧ g ∉ [] ++ topOf v') ha hk [115, 118, 99, 47]).append (he1.flat hfl)).append (els_bytes ha hk [47])).append (he2.flat hfl)
  have hF : ∀ (F : Nat → Nat → List Nat), (∀ i j, F i j = []) → ∀ n m, flatF n m F = [] := fun F h n m => by simp [flatF, h]
  refine ⟨v', rfl, after_mk he (F := _) (by rw [hk1]; rw [show (svcL ++ a ++ [V.int .u8 47] ++ b).length = 4 + a.length + 1 + b.length from by simp [svcL]; omega]; exact k1) hel (fun R _ => .nil) (by simp) (by simp) ?_ ?_ (k2.mono (by simp)) fun g hg => .inr (k3 g hg)⟩
  · rw [hF _ (fun i j => by split <;> (try split) <;> (try split) <;> rfl)]; simp
  · rw [hF _ (fun i j => by split <;> (try split) <;> (try split) <;> rfl)]; simp
def enKey (hB : Base P tab) {f : FuncId} {fn : Func} (hf : P.funcs[f]? = some fn) (hb : (!(fn.name == "runtime.NumGoroutine") && fn.body.isSome) = true) (e : TypeId) {et : Ty} (he : tab e = some et) (ha : et.agg = false) (hk : et.kinds = [.int .u8]) (hK : KeyOk P f e [.int .u8 115, .int .u8 118, .int .u8 99, .int .u8 47] (.int .u8 47)) (par : List (Option TypeId)) : En P tab :=
  { f := f
    s := fun a => bif argsOk [.one (.inl e), .one (.inl e)] a then some ((keyV (rd a 0).L (rd a 1).L).isSome, (V.rr e true ((keyV (rd a 0).L (rd a 1).L).getD default), [])) else none
    ok := by
      intro args r h
      cases hs : argsOk [.one (.inl e), .one (.inl e)] args with
      | false => rw [hs] at h; cases h
      | true =>
        rw [hs] at h
        simp only [cond_true, Option.some.injEq, Prod.mk.injEq] at h
        obtain ⟨h1, h2⟩ := h
        obtain ⟨x, hx⟩ := Option.isSome_iff_exists.1 h1
        rw [hx] at h2
        have ha' := argsMk_ok (pre := []) hs
        simp only [List.nil_append, List.length_nil, argsMk, S2.mk, S1.mk] at ha'
        rw [← ha', ← h2]
        exact sum_key he ha hk hK hx
    en := enters_of hf hb, par := par, wr := false }
end Go.Eng
namespace Go.Eng
noncomputable section
variable {P : Program} {tab : Tab}
def sumsK (c d e T : Nat) : Sums := fun f args => bif Nat.beq f c then (match args with
    | [.inl e1 a, .inl e2 b] => bif Nat.beq e1 e && Nat.beq e2 e then some (true, (.int .i64 (cmpV a b), [])) else none
    | _ => none)
  else bif Nat.beq f d then (match args with
    | [.rr T1 own l, .int .i64 i, .int .i64 j] => bif Nat.beq T1 T then (match delV l i j with | some r => some (true, (.rr T own r, [.dead])) | none => none) else none
    | _ => none)
  else none
theorem sumsK_ok {c d e T : Nat} {et ty : Ty} (he : tab e = some et) (ha : et.agg = false) (hk : et.kinds = [.int .u8]) (hC : CmpOk P c) (hcE : Enters P c) (ht : tab T = some ty) (hD : DelOk P d T ty.kinds.length) (hS : DelSame P d) (hdE : Enters P d) : SumsOk P tab (sumsK c d e T) := by
  intro f args r h
  unfold sumsK at h
  cases hc : Nat.beq f c with
  | true =>
    obtain rfl := Nat.eq_of_beq_eq_true hc
    rw [hc, cond_true] at h
    split at h
    · rename_i e1 a e2 b
      cases hq : (Nat.beq e1 e && Nat.beq e2 e) with
      | false => rw [hq] at h; cases h
      | true =>
        rw [hq] at h
        cases h
        rw [Bool.and_eq_true] at hq
        obtain rfl := Nat.eq_of_beq_eq_true hq.1
        obtain rfl := Nat.eq_of_beq_eq_true hq.2
        exact ⟨hcE, sum_cmp he ha hk hC a b⟩
    · cases h
  | false =>
    rw [hc, cond_false] at h
    cases hd : Nat.beq f d with
    | false => rw [hd] at h; cases h
    | true =>
      obtain rfl := Nat.eq_of_beq_eq_true hd
      rw [hd, cond_true] at h
      split at h
      · rename_i T1 own l i j
        cases hq : Nat.beq T1 T with
        | false => rw [hq] at h; cases h
        | true =>
          rw [hq, cond_true] at h
          obtain rfl := Nat.eq_of_beq_eq_true hq
          split at h
          · rename_i x hx
            cases h
            exact ⟨hdE, sum_del ht hD hS hx⟩
          · cases h
      · cases h
def cfgK (tab : Tab) (c d e T : Nat) : Cfg := { tab := tab, sums := sumsK c d e T, mutf := fun f => Nat.beq f d }
def enB {f : FuncId} {fn : Func} (hf : P.funcs[f]? = some fn) (hb : (!(fn.name == "runtime.NumGoroutine") && fn.body.isSome) = true) {b : Bool} (h : SumOk P tab f [] (.bool b, [])) : En P tab :=
  { f := f
    s := fun a => bif a.isEmpty then some (true, (V.bool b, [])) else none
    ok := by
      intro args r hr
      cases args with
      | nil => cases hr; exact h
      | cons _ _ => cases hr
    en := enters_of hf hb, par := [], wr := false }
theorem run_sum {cfg : Cfg} (hT : TabOk P cfg.tab) (hS : SumsOk P cfg.tab cfg.sums) (hmix : P.follows .mixedOrders = true) {il fl cl : List Nat} {cnf : Nat → Clear} (hil : fnsB P il = true) (hfl : fnsB P fl = true) {m k : Nat} {cn : Clear} {f : FuncId} {fn : Func} (hf : P.funcs[f]? = some fn) (hok : fnOk fn = true) {args : List V} (hlen : Nat.ble args.length fn.ntmps = true) {n : Nat} {r : V × List V}
    (h : evalFnG { cfg with sums := runSums P cfg (fnsOf P il) fl cl cnf m k } (fnsOf P il) cn n fn args = some r) : SumOk P cfg.tab f args r := by
  simp only [fnOk, Bool.and_eq_true] at hok
  have hb : fn.body = some (bodyOf fn) := by
    unfold bodyOf
    cases hq : fn.body with
    | none => rw [hq] at hok; simp at hok
    | some c => rfl
  exact fnG_sound (cfg := { cfg with sums := runSums P cfg (fnsOf P il) fl cl cnf m k }) hT (runSums_ok hT hS hmix (fnsB_spec hil) hfl cl cnf m k) hmix (fnsB_spec hil) hf hb hok.2 (Nat.le_of_ble_eq_true hlen) h
end
end Go.Eng
namespace Go.Eng
def nlt (a b : List V) : Bool := ltList (a.map normB) (b.map normB)
def neq (a b : List V) : Bool := eqList (a.map normB) (b.map normB)
def codes (a : List V) : List Int := a.map fun x => ((x.I.toNat % 256 : Nat) : Int)
theorem eqList_codes : ∀ a b : List V, neq a b = decide (codes a = codes b)
  | [], [] => rfl
  | [], _ :: _ => rfl
  | _ :: _, [] => rfl
  | x :: a, y :: b => by
    have ih := eqList_codes a b
    simp only [neq, codes, List.map_cons, eqList, normB, V.I, List.cons.injEq] at ih ⊢
    rw [ih]
    by_cases h : ((x.I.toNat % 256 : Nat) : Int) = ((y.I.toNat % 256 : Nat) : Int) <;> simp
def ltC : List Int → List Int → Bool
  | _, [] => false
  | [], _ :: _ => true
  | a :: x, b :: y => decide (a < b) || (decide (a = b) && ltC x y)
theorem ltList_codes : ∀ a b : List V, nlt a b = ltC (codes a) (codes b)
  | [], [] => rfl
  | [], _ :: _ => rfl
  | _ :: _, [] => rfl
  | x :: a, y :: b => by
    have ih := ltList_codes a b
    show (decide ((normB x).I < (normB y).I) || (decide ((normB x).I = (normB y).I) && nlt a b)) = ltC (codes (x :: a)) (codes (y :: b))
    rw [ih]
    rfl
theorem ltC_irr : ∀ a, ltC a a = false
  | [] => rfl
  | x :: a => by simp [ltC, ltC_irr a]
theorem ltC_trans : ∀ a b c, ltC a b = true → ltC b c = true → ltC a c = true
  | _, [], _, h, _ => by cases ‹List Int› <;> simp [ltC] at h
  | _, _ :: _, [], _, h => by simp [ltC] at h
  | [], _ :: _, _ :: _, _, _ => rfl
  | x :: a, y :: b, z :: c, h1, h2 => by
    simp only [ltC, Bool.or_eq_true, Bool.and_eq_true, decide_eq_true_eq] at h1 h2 ⊢
    rcases h1 with h1 | ⟨rfl, h1⟩ <;> rcases h2 with h2 | ⟨rfl, h2⟩
    · exact .inl (by omega)
    · exact .inl h1
    · exact .inl h2
    · exact .inr ⟨rfl, ltC_trans a b c h1 h2⟩
theorem ltC_tri : ∀ a b, ltC a b = false → ltC b a = false → a = b
  | [], [], _, _ => rfl
  | [], _ :: _, h, _ => by simp [ltC] at h
  | _ :: _, [], _, h => by simp [ltC] at h
  | x :: a, y :: b, h1, h2 => by
    simp only [ltC, Bool.or_eq_false_iff, decide_eq_false_iff_not, Bool.and_eq_false_iff] at h1 h2
    obtain rfl : x = y := by omega
    rcases h1.2 with h | h
    · exact absurd rfl h
    · rcases h2.2 with h' | h'
      · exact absurd rfl h'
      · rw [ltC_tri a b h h']
theorem nlt_irr (a : List V) : nlt a a = false := by rw [ltList_codes]; exact ltC_irr _
theorem nlt_trans {a b c : List V} (h1 : nlt a b = true) (h2 : nlt b c = true) : nlt a c = true := by rw [ltList_codes] at *; exact ltC_trans _ _ _ h1 h2
theorem nlt_neq {a b : List V} (h : nlt a b = true) : neq a b = false := by
  rw [ltList_codes] at h
  rw [eqList_codes, decide_eq_false_iff_not]
  intro e
  rw [e, ltC_irr] at h; cases h
theorem nlt_asymm {a b : List V} (h : nlt a b = true) : nlt b a = false := by
  cases h' : nlt b a with
  | false => rfl
  | true => have := nlt_trans h h'; rw [nlt_irr] at this; cases this
theorem neq_symm (a b : List V) : neq a b = neq b a := by rw [eqList_codes, eqList_codes]; congr 1; exact propext ⟨Eq.symm, Eq.symm⟩
theorem nlt_congr_r {a b c : List V} (h : neq b c = true) : nlt a b = nlt a c := by
  rw [eqList_codes, decide_eq_true_eq] at h
  rw [ltList_codes, ltList_codes, h]
theorem nlt_congr_l {a b c : List V} (h : neq b c = true) : nlt b a = nlt c a := by
  rw [eqList_codes, decide_eq_true_eq] at h
  rw [ltList_codes, ltList_codes, h]
theorem nlt_tri {a b : List V} (h1 : nlt a b = false) (h2 : neq a b = false) : nlt b a = true := by
  cases h : nlt b a with
  | true => rfl
  | false =>
    rw [ltList_codes] at h h1
    rw [eqList_codes, decide_eq_false_iff_not] at h2
    exact absurd (ltC_tri _ _ h1 h) h2
theorem cmpV_neg (a b : List V) : decide (cmpV a b < 0) = nlt a b := by
  show decide ((bif nlt a b then (-1 : Int) else bif neq a b then 0 else 1) < 0) = _
  cases nlt a b <;> cases neq a b <;> rfl
theorem cmpV_nonneg (a b : List V) : decide ((0 : Int) ≤ cmpV a b) = !nlt a b := by
  show decide ((0 : Int) ≤ (bif nlt a b then (-1 : Int) else bif neq a b then 0 else 1)) = _
  cases nlt a b <;> cases neq a b <;> rfl
theorem cmpV_zero (a b : List V) : decide (cmpV a b = 0) = (!nlt a b && neq a b) := by
  show decide ((bif nlt a b then (-1 : Int) else bif neq a b then 0 else 1) = 0) = _
  cases nlt a b <;> cases neq a b <;> rfl
theorem cmpV_zero' (a b : List V) : decide (cmpV a b = 0) = neq a b := by
  rw [cmpV_zero]
  cases h : neq a b with
  | false => simp
  | true =>
    cases h' : nlt a b with
    | false => rfl
    | true => rw [nlt_neq h'] at h; cases h
theorem wr_mid {i j : Nat} (h : i + j < 9223372036854775808) : IntKind.i64.wrap (sShr .u64 (IntKind.u64.wrap (IntKind.i64.wrap ((i : Int) + (j : Int)))) 1) = (((i + j) / 2 : Nat) : Int) := by
  rw [wr64' (n := (i : Int) + (j : Int)) (by omega) (by omega)]
  have hu : IntKind.u64.wrap ((i : Int) + (j : Int)) = (i : Int) + (j : Int) := by
    have := IntWalk.u64_in ((i : Int) + (j : Int)) (by omega)
    exact this
  rw [hu]
  have : sShr .u64 ((i : Int) + (j : Int)) 1 = (((i + j) / 2 : Nat) : Int) := by
    unfold sShr
    rw [show ((2 : Int) ^ (min (1 : Int).toNat IntKind.u64.bits)) = 2 from by decide, Int.fdiv_eq_ediv_of_nonneg _ (by omega)]
    omega
  rw [this, wr64' (by omega) (by omega)]
theorem bs_loop {ρ : Type} {F : Nat → Int → Int → ρ} {x : List V} {p : V → Bool} {n0 : Nat} {out : Int → ρ} (hx : x.length < 4611686018427387904) (hp : ∀ i, i < x.length → p (rd x i) = decide (i < n0))
    (h1 : ∀ m (i j : Nat), i < j → j ≤ x.length → F (m + 1) (i : Int) (j : Int) = bif p (rd x ((i + j) / 2)) then F m (((i + j) / 2 + 1 : Nat) : Int) (j : Int) else F m (i : Int) (((i + j) / 2 : Nat) : Int)) (h0 : ∀ m (i : Nat), F (m + 1) (i : Int) (i : Int) = out (i : Int)) :
    ∀ m (i j : Nat), i ≤ n0 → n0 ≤ j → j ≤ x.length → j - i < m → F m (i : Int) (j : Int) = out (n0 : Int)
  | 0, i, j, _, _, _, h => by omega
  | m + 1, i, j, hi, hj, hl, hm => by
    rcases Nat.lt_or_ge i j with h | h
    · rw [h1 m i j h hl, hp _ (by omega)]
      by_cases hc : (i + j) / 2 < n0
      · rw [decide_eq_true hc, cond_true]
        exact bs_loop hx hp h1 h0 m _ j (by omega) hj hl (by omega)
      · rw [decide_eq_false hc, cond_false]
        exact bs_loop hx hp h1 h0 m i _ hi (by omega) (by omega) (by omega)
    · obtain rfl : i = j := by omega
      obtain rfl : n0 = i := by omega
      exact h0 m n0
theorem all_loopI {ρ : Type} {F : Nat → Int → ρ} {n : Nat} {q : Nat → Bool} {yes no : ρ}
    (h1 : ∀ m (i : Nat), i < n → F (m + 1) (i : Int) = bif q i then F m ((i + 1 : Nat) : Int) else no) (h0 : ∀ m, F (m + 1) (n : Int) = yes) :
    F (n + 1) 0 = bif (List.range n).all q then yes else no := by
  refine loop_run0 (F := fun m (_ : Unit) i => F m i) (n := n) (fun i _ => (List.range i).all q = true) (fun o => o = bif (List.range n).all q then yes else no) ?_ ?_ (s := ()) (by simp)
  · intro m i s hi hI
    rw [h1 m i hi]
    cases hp : q i with
    | true =>
      refine .inl ⟨(), rfl, ?_⟩
      rw [List.range_succ, List.all_append, hI]; simp [hp]
    | false =>
      refine .inr ?_
      have : (List.range n).all q = false := by
        rw [List.all_eq_false]
        exact ⟨i, List.mem_range.2 hi, by simp [hp]⟩
      rw [this]; rfl
  · intro m s hI
    show F (m + 1) (n : Int) = _
    rw [hI]; exact h0 m
def firstI (q : Nat → Bool) : Nat → Nat → Option Nat
  | _, 0 => none
  | i, k + 1 => bif q i then some i else firstI q (i + 1) k
theorem find_loop {ρ : Type} {F : Nat → Int → ρ} {n : Nat} {q : Nat → Bool} {no : ρ} {out : Int → ρ}
    (h1 : ∀ m (i : Nat), i < n → F (m + 1) (i : Int) = bif q i then out (i : Int) else F m ((i + 1 : Nat) : Int)) (h0 : ∀ m, F (m + 1) (n : Int) = no) :
    ∀ m (i : Nat), i ≤ n → n - i < m → F m (i : Int) = match firstI q i (n - i) with | some j => out (j : Int) | none => no
  | 0, i, _, h => by omega
  | m + 1, i, hi, hm => by
    rcases Nat.lt_or_ge i n with h | h
    · rw [h1 m i h, show n - i = (n - (i + 1)) + 1 from by omega, firstI]
      cases q i with
      | true => rfl
      | false => exact find_loop h1 h0 m (i + 1) (by omega) (by omega)
    · obtain rfl : i = n := by omega
      rw [Nat.sub_self, firstI]; exact h0 m
theorem firstI_none {q : Nat → Bool} : ∀ {k i : Nat}, firstI q i k = none ↔ ∀ j, i ≤ j → j < i + k → q j = false
  | 0, i => by simp [firstI]; omega
  | k + 1, i => by
    rw [firstI]
    cases hq : q i with
    | true => simp; exact ⟨i, Nat.le_refl _, by omega, hq⟩
    | false =>
      rw [cond_false, firstI_none]
      constructor
      · intro h j h1 h2
        rcases Nat.eq_or_lt_of_le h1 with rfl | h3
        · exact hq
        · exact h j h3 (by omega)
      · exact fun h j h1 h2 => h j (by omega) (by omega)
theorem firstI_some {q : Nat → Bool} : ∀ {k i j : Nat}, firstI q i k = some j → i ≤ j ∧ j < i + k ∧ q j = true ∧ ∀ t, i ≤ t → t < j → q t = false
  | 0, i, j, h => by simp [firstI] at h
  | k + 1, i, j, h => by
    rw [firstI] at h
    cases hq : q i with
    | true =>
      rw [hq, cond_true] at h
      cases h
      exact ⟨Nat.le_refl _, by omega, hq, fun t h1 h2 => by omega⟩
    | false =>
      rw [hq, cond_false] at h
      obtain ⟨a, b, c, d⟩ := firstI_some h
      refine ⟨by omega, by omega, c, fun t h1 h2 => ?_⟩
      rcases Nat.eq_or_lt_of_le h1 with rfl | h3
      · exact hq
      · exact d t h3 h2
def lbN (nm : V → List V) (l : List V) (t : List V) : Nat := (l.takeWhile fun x => nlt (nm x) t).length
def AscN (nm : V → List V) (l : List V) : Prop := ∀ i, i + 1 < l.length → nlt (nm (rd l i)) (nm (rd l (i + 1))) = true
theorem AscN.lt {nm : V → List V} {l : List V} (h : AscN nm l) : ∀ {j i : Nat}, i < j → j < l.length → nlt (nm (rd l i)) (nm (rd l j)) = true
  | 0, i, h1, _ => by omega
  | j + 1, i, h1, h2 => by
    rcases Nat.eq_or_lt_of_le (Nat.le_of_lt_succ h1) with rfl | h3
    · exact h i h2
    · exact nlt_trans (h.lt h3 (by omega)) (h j h2)
theorem rd_eq {l : List V} {i : Nat} (h : i < l.length) : rd l i = l[i] := by simp [rd, List.getD, h]
theorem takeWhile_spec {l : List V} {p : V → Bool} : (∀ i, i < (l.takeWhile p).length → p (rd l i) = true) ∧ ((l.takeWhile p).length < l.length → p (rd l (l.takeWhile p).length) = false) ∧ (l.takeWhile p).length ≤ l.length := by
  induction l with
  | nil => simp
  | cons x l ih =>
    obtain ⟨h1, h2, h3⟩ := ih
    rw [List.takeWhile_cons]
    cases hp : p x with
    | false => simp [rd, hp]
    | true =>
      simp only [if_true, List.length_cons]
      refine ⟨fun i hi => ?_, fun hlt => ?_, by omega⟩
      · cases i with
        | zero => simpa [rd] using hp
        | succ i => exact h1 i (by omega)
      · exact h2 (by omega)
theorem lbN_le (nm : V → List V) (l : List V) (t : List V) : lbN nm l t ≤ l.length := (takeWhile_spec (l := l)).2.2
theorem lbN_spec {nm : V → List V} {l : List V} (h : AscN nm l) (t : List V) : ∀ i, i < l.length → nlt (nm (rd l i)) t = decide (i < lbN nm l t) := by
  intro i hi
  obtain ⟨h1, h2, h3⟩ := takeWhile_spec (l := l) (p := fun x => nlt (nm x) t)
  by_cases hc : i < lbN nm l t
  · rw [decide_eq_true hc]; exact h1 i hc
  · rw [decide_eq_false hc]
    have h2 := h2 (by unfold lbN at hc; omega)
    rcases Nat.eq_or_lt_of_le (Nat.le_of_not_lt hc) with e | hlt
    · rw [← e]; exact h2
    · have hl : nlt (nm (rd l (lbN nm l t))) (nm (rd l i)) = true := h.lt hlt hi
      cases hh : nlt (nm (rd l i)) t with
      | false => rfl
      | true => have := nlt_trans hl hh; rw [show nlt (nm (rd l (lbN nm l t))) t = false from h2] at this; cases this
def hasN (nm : V → List V) (l : List V) (t : List V) : Bool := decide (lbN nm l t < l.length) && neq (nm (rd l (lbN nm l t))) t
theorem find_asc {nm : V → List V} {l : List V} (h : AscN nm l) (t : List V) : firstI (fun i => neq (nm (rd l i)) t) 0 l.length = bif hasN nm l t then some (lbN nm l t) else none := by
  have hs := lbN_spec h t
  have hle := lbN_le nm l t
  cases hf : firstI (fun i => neq (nm (rd l i)) t) 0 l.length with
  | none =>
    rw [firstI_none] at hf
    have : hasN nm l t = false := by
      unfold hasN
      by_cases hc : lbN nm l t < l.length
      · rw [hf _ (by omega) (by omega)]; simp
      · simp [hc]
    rw [this]; rfl
  | some j =>
    obtain ⟨-, hj, hq, hb⟩ := firstI_some hf
    have hj : j < l.length := by omega
    have hnl : nlt (nm (rd l j)) t = false := by
      cases hh : nlt (nm (rd l j)) t with
      | false => rfl
      | true => rw [nlt_neq hh] at hq; cases hq
    rw [hs j hj, decide_eq_false_iff_not] at hnl
    have hjl : j = lbN nm l t := by
      rcases Nat.eq_or_lt_of_le (Nat.le_of_not_lt hnl) with e | hlt
      · exact e.symm
      · have := h.lt hlt hj
        rw [nlt_congr_r hq, hs _ (by omega), decide_eq_true_eq] at this
        omega
    have : hasN nm l t = true := by
      unfold hasN
      rw [← hjl]; simp [hj, hq]
    rw [this, hjl]; rfl
end Go.Eng
open Go Go.Eng
namespace Go.Eng.R
def chunks : List (List (Option Ty)) := [
  [none,
   some ⟨[.fn], false, none, [], 8⟩,
   some ⟨[.int .i64], false, none, [], 8⟩,
   some ⟨[.int .i64], false, none, [], 8⟩,
   some ⟨[.bool], false, none, [], 1⟩,
   some ⟨[.int .u8], false, none, [], 1⟩,
   some ⟨[.int .u8], false, none, [], 1⟩,
   some ⟨[.int .i64, .int .i64, .bool, .int .u8], true, none, [(0, 2), (1, 3), (2, 4), (3, 6)], 24⟩,
   some ⟨[.int .i64, .int .i64, .bool, .int .u8], true, none, [(0, 2), (1, 3), (2, 4), (3, 6)], 24⟩,
   some ⟨[.str], false, none, [], 16⟩,
   some ⟨[.str], false, none, [], 16⟩,
   some ⟨[.str], false, none, [], 16⟩,
   some ⟨[.int .u64], false, none, [], 8⟩,
   some ⟨[.str, .int .u64], true, none, [(0, 9), (1, 12)], 24⟩,
   some ⟨[.str, .int .u64], true, none, [(0, 9), (1, 12)], 24⟩,
   some ⟨[.ptr], false, none, [], 8⟩],
  [some ⟨[.ptr], false, none, [], 8⟩,
   some ⟨[.ptr], false, none, [], 8⟩,
   some ⟨[.ptr], true, none, [(0, 17)], 8⟩,
   some ⟨[.ptr], true, none, [(0, 17)], 8⟩,
   none,
   some ⟨[.int .i32], false, none, [], 4⟩,
   some ⟨[.sl 5], false, some 5, [], 24⟩,
   some ⟨[.sl 33], false, some 33, [], 24⟩,
   some ⟨[.int .i64, .sl 33], true, none, [(0, 3), (1, 23)], 32⟩,
   some ⟨[.int .i64, .sl 33], true, none, [(0, 3), (1, 23)], 32⟩,
   none,
   some ⟨[.fn], false, none, [], 8⟩,
   none,
   some ⟨[.fn], false, none, [], 8⟩,
   some ⟨[.fn], false, none, [], 8⟩,
   some ⟨[.fn], false, none, [], 8⟩],
  [some ⟨[.int .i64, .int .i64, .int .i64], true, none, [(0, 3), (1, 3), (2, 3)], 24⟩,
   some ⟨[.int .i64, .int .i64, .int .i64], true, none, [(0, 3), (1, 3), (2, 3)], 24⟩,
   some ⟨[.sl 3], false, some 3, [], 24⟩,
   some ⟨[.fn], false, none, [], 8⟩,
   some ⟨[.fn], false, none, [], 8⟩,
   some ⟨[.sl 121], false, some 121, [], 24⟩,
   some ⟨[.sl 4], false, some 4, [], 24⟩,
   some ⟨[.int .i64, .int .i64, .int .i64, .sl 121, .int .i64, .int .i64, .int .i64, .int .i64, .sl 4, .sl 3, .sl 3], true, none, [(0, 3), (1, 3), (2, 3), (3, 37), (4, 3), (5, 3), (6, 3), (7, 3), (8, 38), (9, 34), (10, 34)], 152⟩,
   some ⟨[.int .i64, .int .i64, .int .i64, .sl 121, .int .i64, .int .i64, .int .i64, .int .i64, .sl 4, .sl 3, .sl 3], true, none, [(0, 3), (1, 3), (2, 3), (3, 37), (4, 3), (5, 3), (6, 3), (7, 3), (8, 38), (9, 34), (10, 34)], 152⟩,
   none,
   some ⟨[.fn], false, none, [], 8⟩,
   some ⟨[.fn], false, none, [], 8⟩,
   some ⟨[.fn], false, none, [], 8⟩,
   some ⟨[.fn], false, none, [], 8⟩,
   none,
   some ⟨[.fn], false, none, [], 8⟩],
  [some ⟨[.fn], false, none, [], 8⟩,
   some ⟨[.fn], false, none, [], 8⟩,
   some ⟨[.fn], false, none, [], 8⟩,
   some ⟨[.fn], false, none, [], 8⟩,
   some ⟨[.fn], false, none, [], 8⟩,
   none,
   some ⟨[.fn], false, none, [], 8⟩,
   some ⟨[.fn], false, none, [], 8⟩,
   some ⟨[.fn], false, none, [], 8⟩,
   some ⟨[.int .i64, .int .i64, .int .i64, .int .i64, .int .i64, .int .i64, .sl 121, .int .i64, .bool], true, none, [(0, 3), (1, 3), (2, 3), (3, 3), (4, 3), (5, 3), (6, 37), (7, 3), (8, 4)], 88⟩,
   some ⟨[.int .i64, .int .i64, .int .i64, .int .i64, .int .i64, .int .i64, .sl 121, .int .i64, .bool], true, none, [(0, 3), (1, 3), (2, 3), (3, 3), (4, 3), (5, 3), (6, 37), (7, 3), (8, 4)], 88⟩,
   none,
   some ⟨[.fn], false, none, [], 8⟩,
   some ⟨[.sl 58], false, some 58, [], 24⟩,
   none,
   some ⟨[.fn], false, none, [], 8⟩],
  [some ⟨[.fn], false, none, [], 8⟩,
   none,
   some ⟨[.fn], false, none, [], 8⟩,
   some ⟨[.fn], false, none, [], 8⟩,
   some ⟨[.sl 3, .int .i64, .int .i64, .int .i64, .int .i64, .int .i64], true, none, [(0, 34), (1, 3), (2, 3), (3, 3), (4, 3), (5, 3)], 64⟩,
   some ⟨[.sl 3, .int .i64, .int .i64, .int .i64, .int .i64, .int .i64], true, none, [(0, 34), (1, 3), (2, 3), (3, 3), (4, 3), (5, 3)], 64⟩,
   none,
   some ⟨[.fn], false, none, [], 8⟩,
   none,
   some ⟨[.fn], false, none, [], 8⟩,
   some ⟨[.fn], false, none, [], 8⟩,
   none,
   some ⟨[.fn], false, none, [], 8⟩,
   none,
   some ⟨[.fn], false, none, [], 8⟩,
   some ⟨[.ptr], false, none, [], 8⟩],
  [some ⟨[.fn], false, none, [], 8⟩,
   some ⟨[.fn], false, none, [], 8⟩,
   some ⟨[.fn], false, none, [], 8⟩,
   some ⟨[.fn], false, none, [], 8⟩,
   some ⟨[.sl 91], false, some 91, [], 24⟩,
   some ⟨[.fn], false, none, [], 8⟩,
   some ⟨[.fn], false, none, [], 8⟩,
   some ⟨[.int .i64, .sl 5, .sl 5, .int .i64], true, none, [(0, 3), (1, 22), (2, 22), (3, 3)], 64⟩,
   some ⟨[.int .i64, .sl 5, .sl 5, .int .i64], true, none, [(0, 3), (1, 22), (2, 22), (3, 3)], 64⟩,
   some ⟨[.fn], false, none, [], 8⟩,
   some ⟨[.int .i64, .int .i64, .int .i64, .int .i64, .sl 5, .sl 5, .int .i64, .sl 5], true, none, [(0, 3), (1, 3), (2, 3), (3, 88), (7, 22)], 112⟩,
   some ⟨[.int .i64, .int .i64, .int .i64, .int .i64, .sl 5, .sl 5, .int .i64, .sl 5], true, none, [(0, 3), (1, 3), (2, 3), (3, 88), (7, 22)], 112⟩,
   some ⟨[.sl 247], false, some 247, [], 24⟩,
   some ⟨[.sl 103], false, some 103, [], 24⟩,
   some ⟨[.sl 108], false, some 108, [], 24⟩,
   some ⟨[.sl 40], false, some 40, [], 24⟩],
  [some ⟨[.sl 168], false, some 168, [], 24⟩,
   some ⟨[.bool, .bool, .sl 247, .sl 103, .sl 108, .sl 108, .sl 40, .sl 168, .sl 4, .int .i64, .int .i64], true, none, [(0, 4), (1, 4), (2, 92), (3, 93), (4, 94), (5, 94), (6, 95), (7, 96), (8, 38), (9, 3), (10, 3)], 192⟩,
   some ⟨[.bool, .bool, .sl 247, .sl 103, .sl 108, .sl 108, .sl 40, .sl 168, .sl 4, .int .i64, .int .i64], true, none, [(0, 4), (1, 4), (2, 92), (3, 93), (4, 94), (5, 94), (6, 95), (7, 96), (8, 38), (9, 3), (10, 3)], 192⟩,
   some ⟨[.fn], false, none, [], 8⟩,
   some ⟨[.int .i64, .int .i64], true, none, [(0, 3), (1, 3)], 16⟩,
   some ⟨[.int .i64, .int .i64], true, none, [(0, 3), (1, 3)], 16⟩,
   some ⟨[.int .i64, .int .i64, .int .i64, .sl 5, .sl 5, .int .i64, .int .i64, .int .i64, .int .i64, .int .i64], true, none, [(0, 3), (1, 3), (2, 88), (6, 3), (7, 3), (8, 101)], 112⟩,
   some ⟨[.int .i64, .int .i64, .int .i64, .sl 5, .sl 5, .int .i64, .int .i64, .int .i64, .int .i64, .int .i64], true, none, [(0, 3), (1, 3), (2, 88), (6, 3), (7, 3), (8, 101)], 112⟩,
   some ⟨[.fn], false, none, [], 8⟩,
   some ⟨[.int .i64, .bool, .sl 5], true, none, [(0, 3), (1, 4), (2, 22)], 40⟩,
   some ⟨[.int .i64, .bool, .sl 5], true, none, [(0, 3), (1, 4), (2, 22)], 40⟩,
   some ⟨[.int .i64, .int .i64, .sl 5, .int .i64, .int .i64, .int .i64, .bool, .sl 5], true, none, [(0, 3), (1, 3), (2, 22), (3, 3), (4, 3), (5, 106)], 96⟩,
   some ⟨[.int .i64, .int .i64, .sl 5, .int .i64, .int .i64, .int .i64, .bool, .sl 5], true, none, [(0, 3), (1, 3), (2, 22), (3, 3), (4, 3), (5, 106)], 96⟩,
   none,
   some ⟨[.fn], false, none, [], 8⟩,
   some ⟨[.fn], false, none, [], 8⟩],
  [none,
   some ⟨[.fn], false, none, [], 8⟩,
   some ⟨[.fn], false, none, [], 8⟩,
   some ⟨[.fn], false, none, [], 8⟩,
   some ⟨[.fn], false, none, [], 8⟩,
   some ⟨[.fn], false, none, [], 8⟩,
   some ⟨[.int .i64, .int .i64, .int .i64, .sl 5, .sl 5, .int .i64], true, none, [(0, 3), (1, 3), (2, 88)], 80⟩,
   some ⟨[.int .i64, .int .i64, .int .i64, .sl 5, .sl 5, .int .i64], true, none, [(0, 3), (1, 3), (2, 88)], 80⟩,
   some ⟨[.int .i64, .int .i64, .int .i64, .int .i64, .sl 5, .sl 5, .int .i64], true, none, [(0, 3), (1, 119)], 88⟩,
   some ⟨[.int .i64, .int .i64, .int .i64, .int .i64, .sl 5, .sl 5, .int .i64], true, none, [(0, 3), (1, 119)], 88⟩,
   some ⟨[.fn], false, none, [], 8⟩,
   some ⟨[.fn], false, none, [], 8⟩,
   some ⟨[.fn], false, none, [], 8⟩,
   some ⟨[.fn], false, none, [], 8⟩,
   none,
   some ⟨[.fn], false, none, [], 8⟩],
  [some ⟨[.fn], false, none, [], 8⟩,
   some ⟨[.ptr], false, none, [], 8⟩,
   some ⟨[.fn], false, none, [], 8⟩,
   some ⟨[.fn], false, none, [], 8⟩,
   some ⟨[.fn], false, none, [], 8⟩,
   some ⟨[.fn], false, none, [], 8⟩,
   some ⟨[.fn], false, none, [], 8⟩,
   some ⟨[.ptr], false, none, [], 8⟩,
   some ⟨[.ptr], false, none, [], 8⟩,
   some ⟨[.fn], false, none, [], 8⟩,
   some ⟨[.int .i64, .int .i64, .int .i64, .sl 121, .int .i64, .int .i64, .int .i64, .int .i64, .sl 4, .sl 3, .sl 3, .sl 58], true, none, [(0, 40), (11, 61)], 176⟩,
   some ⟨[.int .i64, .int .i64, .int .i64, .sl 121, .int .i64, .int .i64, .int .i64, .int .i64, .sl 4, .sl 3, .sl 3, .sl 58], true, none, [(0, 40), (11, 61)], 176⟩,
   some ⟨[.fn], false, none, [], 8⟩,
   some ⟨[.fn], false, none, [], 8⟩,
   some ⟨[.fn], false, none, [], 8⟩,
   some ⟨[.fn], false, none, [], 8⟩],
  [some ⟨[.fn], false, none, [], 8⟩,
   some ⟨[.fn], false, none, [], 8⟩,
   none,
   some ⟨[.fn], false, none, [], 8⟩,
   some ⟨[.fn], false, none, [], 8⟩,
   some ⟨[.sl 5, .int .i64, .int .i64], true, none, [(0, 22), (1, 3), (2, 3)], 40⟩,
   some ⟨[.sl 5, .int .i64, .int .i64], true, none, [(0, 22), (1, 3), (2, 3)], 40⟩,
   some ⟨[.fn], false, none, [], 8⟩,
   some ⟨[.fn], false, none, [], 8⟩,
   some ⟨[.ptr], false, none, [], 8⟩,
   some ⟨[.fn], false, none, [], 8⟩,
   some ⟨[.ptr], false, none, [], 8⟩,
   some ⟨[.fn], false, none, [], 8⟩,
   some ⟨[.sl 162], false, some 162, [], 24⟩,
   some ⟨[.sl 231], false, some 231, [], 24⟩,
   some ⟨[.sl 162, .sl 3, .sl 3, .sl 231, .int .i64, .bool, .bool, .sl 247, .sl 103, .sl 108, .sl 108, .sl 40, .sl 168, .sl 4, .int .i64, .int .i64], true, none, [(0, 157), (1, 34), (2, 34), (3, 158), (4, 3), (5, 98)], 296⟩],
  [some ⟨[.sl 162, .sl 3, .sl 3, .sl 231, .int .i64, .bool, .bool, .sl 247, .sl 103, .sl 108, .sl 108, .sl 40, .sl 168, .sl 4, .int .i64, .int .i64], true, none, [(0, 157), (1, 34), (2, 34), (3, 158), (4, 3), (5, 98)], 296⟩,
   some ⟨[.fn], false, none, [], 8⟩,
   some ⟨[.ptr], false, none, [], 8⟩,
   some ⟨[.sl 208], false, some 208, [], 24⟩,
   some ⟨[.sl 211], false, some 211, [], 24⟩,
   some ⟨[.sl 214], false, some 214, [], 24⟩,
   some ⟨[.sl 217], false, some 217, [], 24⟩,
   some ⟨[.int .i64, .sl 208, .sl 211, .int .i64, .sl 214, .sl 217], true, none, [(0, 3), (1, 163), (2, 164), (3, 3), (4, 165), (5, 166)], 112⟩,
   some ⟨[.int .i64, .sl 208, .sl 211, .int .i64, .sl 214, .sl 217], true, none, [(0, 3), (1, 163), (2, 164), (3, 3), (4, 165), (5, 166)], 112⟩,
   some ⟨[.sl 204], false, some 204, [], 24⟩,
   some ⟨[.int .i64, .int .i64, .int .i64, .sl 121, .int .i64, .int .i64, .int .i64, .int .i64, .sl 4, .sl 3, .sl 3, .int .i64, .sl 208, .sl 211, .int .i64, .sl 214, .sl 217, .int .i64, .bool, .sl 204], true, none, [(0, 40), (11, 168), (17, 3), (18, 4), (19, 169)], 304⟩,
   some ⟨[.int .i64, .int .i64, .int .i64, .sl 121, .int .i64, .int .i64, .int .i64, .int .i64, .sl 4, .sl 3, .sl 3, .int .i64, .sl 208, .sl 211, .int .i64, .sl 214, .sl 217, .int .i64, .bool, .sl 204], true, none, [(0, 40), (11, 168), (17, 3), (18, 4), (19, 169)], 304⟩,
   some ⟨[.fn], false, none, [], 8⟩,
   some ⟨[.fn], false, none, [], 8⟩,
   some ⟨[.fn], false, none, [], 8⟩,
   some ⟨[.fn], false, none, [], 8⟩],
  [some ⟨[.fn], false, none, [], 8⟩,
   some ⟨[.fn], false, none, [], 8⟩,
   some ⟨[.fn], false, none, [], 8⟩,
   some ⟨[.fn], false, none, [], 8⟩,
   some ⟨[.fn], false, none, [], 8⟩,
   some ⟨[.fn], false, none, [], 8⟩,
   some ⟨[.fn], false, none, [], 8⟩,
   some ⟨[.fn], false, none, [], 8⟩,
   some ⟨[.fn], false, none, [], 8⟩,
   some ⟨[.fn], false, none, [], 8⟩,
   some ⟨[.fn], false, none, [], 8⟩,
   some ⟨[.fn], false, none, [], 8⟩,
   some ⟨[.fn], false, none, [], 8⟩,
   some ⟨[.fn], false, none, [], 8⟩,
   some ⟨[.fn], false, none, [], 8⟩,
   some ⟨[.ptr], false, none, [], 8⟩],
  [some ⟨[.fn], false, none, [], 8⟩,
   none,
   some ⟨[.fn], false, none, [], 8⟩,
   some ⟨[.fn], false, none, [], 8⟩,
   some ⟨[.fn], false, none, [], 8⟩,
   some ⟨[.fn], false, none, [], 8⟩,
   some ⟨[.fn], false, none, [], 8⟩,
   none,
   some ⟨[.fn], false, none, [], 8⟩,
   some ⟨[.fn], false, none, [], 8⟩,
   some ⟨[.fn], false, none, [], 8⟩,
   some ⟨[.sl 5, .int .i64], true, none, [(0, 22), (1, 3)], 32⟩,
   some ⟨[.sl 5, .int .i64], true, none, [(0, 22), (1, 3)], 32⟩,
   some ⟨[.fn], false, none, [], 8⟩,
   some ⟨[.fn], false, none, [], 8⟩,
   some ⟨[.sl 5, .sl 5, .int .i64, .int .i64], true, none, [(0, 22), (1, 22), (2, 3), (3, 3)], 64⟩],
  [some ⟨[.sl 5, .sl 5, .int .i64, .int .i64], true, none, [(0, 22), (1, 22), (2, 3), (3, 3)], 64⟩,
   some ⟨[.fn], false, none, [], 8⟩,
   some ⟨[.sl 5, .int .i64], true, none, [(0, 22), (1, 3)], 32⟩,
   some ⟨[.sl 5, .int .i64], true, none, [(0, 22), (1, 3)], 32⟩,
   some ⟨[.fn], false, none, [], 8⟩,
   some ⟨[.int .i64, .bool], true, none, [(0, 3), (1, 4)], 16⟩,
   some ⟨[.int .i64, .bool], true, none, [(0, 3), (1, 4)], 16⟩,
   some ⟨[.fn], false, none, [], 8⟩,
   some ⟨[.int .i64, .int .i64, .int .i64, .int .i64], true, none, [(0, 3), (1, 3), (2, 101)], 32⟩,
   some ⟨[.int .i64, .int .i64, .int .i64, .int .i64], true, none, [(0, 3), (1, 3), (2, 101)], 32⟩,
   some ⟨[.fn], false, none, [], 8⟩,
   some ⟨[.int .u64], false, none, [], 8⟩,
   some ⟨[.fn], false, none, [], 8⟩,
   some ⟨[.fn], false, none, [], 8⟩,
   some ⟨[.fn], false, none, [], 8⟩,
   some ⟨[.fn], false, none, [], 8⟩],
  [some ⟨[.fn], false, none, [], 8⟩,
   some ⟨[.fn], false, none, [], 8⟩,
   some ⟨[.fn], false, none, [], 8⟩,
   some ⟨[.fn], false, none, [], 8⟩,
   some ⟨[.fn], false, none, [], 8⟩,
   some ⟨[.fn], false, none, [], 8⟩,
   some ⟨[.int .i64, .int .i64, .int .i64, .int .i64, .int .i64, .int .i64, .int .i64, .sl 121, .int .i64, .bool, .int .i64, .int .i64, .int .i64, .int .i64, .sl 5, .sl 5, .int .i64, .int .i64, .int .i64, .int .i64, .int .i64], true, none, [(0, 3), (1, 58), (10, 3), (11, 119), (17, 3), (18, 3), (19, 101)], 216⟩,
   some ⟨[.int .i64, .int .i64, .int .i64, .int .i64, .int .i64, .int .i64, .int .i64, .sl 121, .int .i64, .bool, .int .i64, .int .i64, .int .i64, .int .i64, .sl 5, .sl 5, .int .i64, .int .i64, .int .i64, .int .i64, .int .i64], true, none, [(0, 3), (1, 58), (10, 3), (11, 119), (17, 3), (18, 3), (19, 101)], 216⟩,
   some ⟨[.fn], false, none, [], 8⟩,
   some ⟨[.fn], false, none, [], 8⟩,
   some ⟨[.fn], false, none, [], 8⟩,
   some ⟨[.fn], false, none, [], 8⟩,
   some ⟨[.fn], false, none, [], 8⟩,
   some ⟨[.fn], false, none, [], 8⟩,
   some ⟨[.fn], false, none, [], 8⟩,
   some ⟨[.fn], false, none, [], 8⟩],
  [some ⟨[.fn], false, none, [], 8⟩,
   some ⟨[.fn], false, none, [], 8⟩,
   some ⟨[.fn], false, none, [], 8⟩,
   some ⟨[.fn], false, none, [], 8⟩,
   some ⟨[.fn], false, none, [], 8⟩,
   some ⟨[.sl 9], false, some 9, [], 24⟩,
   some ⟨[.int .i64, .int .i64, .int .i64, .int .i64, .sl 5, .sl 5, .int .i64], true, none, [(0, 3), (1, 119)], 88⟩,
   some ⟨[.int .i64, .int .i64, .int .i64, .int .i64, .sl 5, .sl 5, .int .i64], true, none, [(0, 3), (1, 119)], 88⟩,
   some ⟨[.fn], false, none, [], 8⟩,
   some ⟨[.fn], false, none, [], 8⟩,
   some ⟨[.fn], false, none, [], 8⟩,
   some ⟨[.fn], false, none, [], 8⟩,
   some ⟨[.fn], false, none, [], 8⟩,
   some ⟨[.fn], false, none, [], 8⟩,
   some ⟨[.fn], false, none, [], 8⟩,
   some ⟨[.fn], false, none, [], 8⟩],
  [some ⟨[.ptr], false, none, [], 8⟩,
   some ⟨[.fn], false, none, [], 8⟩,
   some ⟨[.fn], false, none, [], 8⟩,
   some ⟨[.fn], false, none, [], 8⟩,
   some ⟨[.fn], false, none, [], 8⟩,
   some ⟨[.fn], false, none, [], 8⟩,
   some ⟨[.fn], false, none, [], 8⟩,
   some ⟨[.fn], false, none, [], 8⟩,
   some ⟨[.fn], false, none, [], 8⟩,
   some ⟨[.fn], false, none, [], 8⟩,
   some ⟨[.fn], false, none, [], 8⟩,
   some ⟨[.fn], false, none, [], 8⟩,
   some ⟨[.fn], false, none, [], 8⟩,
   some ⟨[.fn], false, none, [], 8⟩,
   some ⟨[.fn], false, none, [], 8⟩,
   some ⟨[.fn], false, none, [], 8⟩],
  [some ⟨[.ptr, .ptr, .ptr, .str], true, none, [(0, 17), (1, 17), (2, 17), (3, 9)], 40⟩,
   some ⟨[.ptr, .ptr, .ptr, .str], true, none, [(0, 17), (1, 17), (2, 17), (3, 9)], 40⟩,
   none,
   none,
   none,
   some ⟨[.int .u32], false, none, [], 4⟩,
   some ⟨[.int .u8], false, none, [], 1⟩,
   some ⟨[.int .u8], false, none, [], 1⟩,
   some ⟨[.fn], false, none, [], 8⟩,
   some ⟨[.ptr], false, none, [], 8⟩,
   some ⟨[.int .i32], false, none, [], 4⟩,
   some ⟨[.int .i32], false, none, [], 4⟩,
   some ⟨[.int .u64, .int .u64, .int .u32, .int .u8, .int .u8, .int .u8, .int .u8, .fn, .ptr, .int .i32, .int .i32], true, none, [(0, 12), (1, 12), (2, 277), (3, 278), (4, 5), (5, 5), (6, 279), (7, 280), (8, 281), (9, 282), (10, 283)], 48⟩,
   some ⟨[.int .u64, .int .u64, .int .u32, .int .u8, .int .u8, .int .u8, .int .u8, .fn, .ptr, .int .i32, .int .i32], true, none, [(0, 12), (1, 12), (2, 277), (3, 278), (4, 5), (5, 5), (6, 279), (7, 280), (8, 281), (9, 282), (10, 283)], 48⟩,
   none,
   none]]
def tab : Tab := tabOf chunks
abbrev t_tuple_0 : TypeId := 0
abbrev t_func_1 : TypeId := 1
abbrev t_int : TypeId := 2
abbrev t_int' : TypeId := 3
abbrev t_bool : TypeId := 4
abbrev t_byte : TypeId := 5
abbrev t_abi_BoundsErrorCode : TypeId := 6
abbrev t_st_7 : TypeId := 7
abbrev t_runtime_boundsError : TypeId := 8
abbrev t_string : TypeId := 9
abbrev t_runtime_errorString : TypeId := 10
abbrev t_runtime_plainError : TypeId := 11
abbrev t_u64 : TypeId := 12
abbrev t_st_13 : TypeId := 13
abbrev t_runtime_errorAddressString : TypeId := 14
abbrev t_ptr_runtime_TypeAssertionError : TypeId := 15
abbrev t_ptr_runtime_PanicNilError : TypeId := 16
abbrev t_ptr_abi_Type : TypeId := 17
abbrev t_st_18 : TypeId := 18
abbrev t_maps_unhashableTypeError : TypeId := 19
abbrev t_interface_20 : TypeId := 20
abbrev t_i32 : TypeId := 21
abbrev t_sl_byte : TypeId := 22
abbrev t_sl_impl_Member : TypeId := 23
abbrev t_st_24 : TypeId := 24
abbrev t_impl_Table : TypeId := 25
abbrev t_tuple_26 : TypeId := 26
abbrev t_func_27 : TypeId := 27
abbrev t_tuple_28 : TypeId := 28
abbrev t_func_29 : TypeId := 29
abbrev t_func_30 : TypeId := 30
abbrev t_func_31 : TypeId := 31
abbrev t_st_32 : TypeId := 32
abbrev t_impl_Member : TypeId := 33
abbrev t_sl_int : TypeId := 34
abbrev t_func_35 : TypeId := 35
abbrev t_func_36 : TypeId := 36
abbrev t_sl_impl_Item : TypeId := 37
abbrev t_sl_bool : TypeId := 38
abbrev t_st_39 : TypeId := 39
abbrev t_impl_Node : TypeId := 40
abbrev t_tuple_41 : TypeId := 41
abbrev t_func_42 : TypeId := 42
abbrev t_func_43 : TypeId := 43
abbrev t_func_44 : TypeId := 44
abbrev t_func_45 : TypeId := 45
abbrev t_tuple_46 : TypeId := 46
abbrev t_func_47 : TypeId := 47
abbrev t_func_48 : TypeId := 48
abbrev t_func_49 : TypeId := 49
abbrev t_func_50 : TypeId := 50
abbrev t_func_51 : TypeId := 51
abbrev t_func_52 : TypeId := 52
abbrev t_tuple_53 : TypeId := 53
abbrev t_func_54 : TypeId := 54
abbrev t_func_55 : TypeId := 55
abbrev t_func_56 : TypeId := 56
abbrev t_st_57 : TypeId := 57
abbrev t_impl_Msg : TypeId := 58
abbrev t_tuple_59 : TypeId := 59
abbrev t_func_60 : TypeId := 60
abbrev t_sl_impl_Msg : TypeId := 61
abbrev t_tuple_62 : TypeId := 62
abbrev t_func_63 : TypeId := 63
abbrev t_func_64 : TypeId := 64
abbrev t_tuple_65 : TypeId := 65
abbrev t_func_66 : TypeId := 66
abbrev t_func_67 : TypeId := 67
abbrev t_st_68 : TypeId := 68
abbrev t_impl_Prober : TypeId := 69
abbrev t_tuple_70 : TypeId := 70
abbrev t_func_71 : TypeId := 71
abbrev t_tuple_72 : TypeId := 72
abbrev t_func_73 : TypeId := 73
abbrev t_func_74 : TypeId := 74
abbrev t_tuple_75 : TypeId := 75
abbrev t_func_76 : TypeId := 76
abbrev t_tuple_77 : TypeId := 77
abbrev t_func_78 : TypeId := 78
abbrev t_ptr_spec_l1Cur : TypeId := 79
abbrev t_func_80 : TypeId := 80
abbrev t_func_81 : TypeId := 81
abbrev t_func_82 : TypeId := 82
abbrev t_func_83 : TypeId := 83
abbrev t_sl_impl_Action : TypeId := 84
abbrev t_func_85 : TypeId := 85
abbrev t_func_86 : TypeId := 86
abbrev t_st_87 : TypeId := 87
abbrev t_impl_Op : TypeId := 88
abbrev t_func_89 : TypeId := 89
abbrev t_st_90 : TypeId := 90
abbrev t_impl_Action : TypeId := 91
abbrev t_sl_impl_Fact : TypeId := 92
abbrev t_sl_impl_Call : TypeId := 93
abbrev t_sl_impl_Note : TypeId := 94
abbrev t_sl_impl_Node : TypeId := 95
abbrev t_sl_impl_State : TypeId := 96
abbrev t_st_97 : TypeId := 97
abbrev t_impl_Result : TypeId := 98
abbrev t_func_99 : TypeId := 99
abbrev t_st_100 : TypeId := 100
abbrev t_impl_Reply : TypeId := 101
abbrev t_st_102 : TypeId := 102
abbrev t_impl_Call : TypeId := 103
abbrev t_func_104 : TypeId := 104
abbrev t_st_105 : TypeId := 105
abbrev t_impl_View : TypeId := 106
abbrev t_st_107 : TypeId := 107
abbrev t_impl_Note : TypeId := 108
abbrev t_tuple_109 : TypeId := 109
abbrev t_func_110 : TypeId := 110
abbrev t_func_111 : TypeId := 111
abbrev t_tuple_112 : TypeId := 112
abbrev t_func_113 : TypeId := 113
abbrev t_func_114 : TypeId := 114
abbrev t_func_115 : TypeId := 115
abbrev t_func_116 : TypeId := 116
abbrev t_func_117 : TypeId := 117
abbrev t_st_118 : TypeId := 118
abbrev t_impl_Cmd : TypeId := 119
abbrev t_st_120 : TypeId := 120
abbrev t_impl_Item : TypeId := 121
abbrev t_func_122 : TypeId := 122
abbrev t_func_123 : TypeId := 123
abbrev t_func_124 : TypeId := 124
abbrev t_func_125 : TypeId := 125
abbrev t_tuple_126 : TypeId := 126
abbrev t_func_127 : TypeId := 127
abbrev t_func_128 : TypeId := 128
abbrev t_ptr_impl_Member : TypeId := 129
abbrev t_func_130 : TypeId := 130
abbrev t_func_131 : TypeId := 131
abbrev t_func_132 : TypeId := 132
abbrev t_func_133 : TypeId := 133
abbrev t_func_134 : TypeId := 134
abbrev t_ptr_impl_Node : TypeId := 135
abbrev t_ptr_impl_server : TypeId := 136
abbrev t_func_137 : TypeId := 137
abbrev t_st_138 : TypeId := 138
abbrev t_impl_server : TypeId := 139
abbrev t_func_140 : TypeId := 140
abbrev t_func_141 : TypeId := 141
abbrev t_func_142 : TypeId := 142
abbrev t_func_143 : TypeId := 143
abbrev t_func_144 : TypeId := 144
abbrev t_func_145 : TypeId := 145
abbrev t_tuple_146 : TypeId := 146
abbrev t_func_147 : TypeId := 147
abbrev t_func_148 : TypeId := 148
abbrev t_st_149 : TypeId := 149
abbrev t_spec_l1Cur : TypeId := 150
abbrev t_func_151 : TypeId := 151
abbrev t_func_152 : TypeId := 152
abbrev t_ptr_impl_Table : TypeId := 153
abbrev t_func_154 : TypeId := 154
abbrev t_ptr_impl_cluster : TypeId := 155
abbrev t_func_156 : TypeId := 156
abbrev t_sl_ptr_impl_seat : TypeId := 157
abbrev t_sl_impl_packet : TypeId := 158
abbrev t_st_159 : TypeId := 159
abbrev t_impl_cluster : TypeId := 160
abbrev t_func_161 : TypeId := 161
abbrev t_ptr_impl_seat : TypeId := 162
abbrev t_sl_impl_Row : TypeId := 163
abbrev t_sl_impl_Tomb : TypeId := 164
abbrev t_sl_impl_Session : TypeId := 165
abbrev t_sl_impl_Last : TypeId := 166
abbrev t_st_167 : TypeId := 167
abbrev t_impl_State : TypeId := 168
abbrev t_sl_impl_watch : TypeId := 169
abbrev t_st_170 : TypeId := 170
abbrev t_impl_seat : TypeId := 171
abbrev t_func_172 : TypeId := 172
abbrev t_func_173 : TypeId := 173
abbrev t_func_174 : TypeId := 174
abbrev t_func_175 : TypeId := 175
abbrev t_func_176 : TypeId := 176
abbrev t_func_177 : TypeId := 177
abbrev t_func_178 : TypeId := 178
abbrev t_func_179 : TypeId := 179
abbrev t_func_180 : TypeId := 180
abbrev t_func_181 : TypeId := 181
abbrev t_func_182 : TypeId := 182
abbrev t_func_183 : TypeId := 183
abbrev t_func_184 : TypeId := 184
abbrev t_func_185 : TypeId := 185
abbrev t_func_186 : TypeId := 186
abbrev t_func_187 : TypeId := 187
abbrev t_func_188 : TypeId := 188
abbrev t_func_189 : TypeId := 189
abbrev t_func_190 : TypeId := 190
abbrev t_ptr_impl_Prober : TypeId := 191
abbrev t_func_192 : TypeId := 192
abbrev t_tuple_193 : TypeId := 193
abbrev t_func_194 : TypeId := 194
abbrev t_func_195 : TypeId := 195
abbrev t_func_196 : TypeId := 196
abbrev t_func_197 : TypeId := 197
abbrev t_func_198 : TypeId := 198
abbrev t_tuple_199 : TypeId := 199
abbrev t_func_200 : TypeId := 200
abbrev t_func_201 : TypeId := 201
abbrev t_func_202 : TypeId := 202
abbrev t_st_203 : TypeId := 203
abbrev t_impl_watch : TypeId := 204
abbrev t_func_205 : TypeId := 205
abbrev t_func_206 : TypeId := 206
abbrev t_st_207 : TypeId := 207
abbrev t_impl_Row : TypeId := 208
abbrev t_func_209 : TypeId := 209
abbrev t_st_210 : TypeId := 210
abbrev t_impl_Tomb : TypeId := 211
abbrev t_func_212 : TypeId := 212
abbrev t_st_213 : TypeId := 213
abbrev t_impl_Session : TypeId := 214
abbrev t_func_215 : TypeId := 215
abbrev t_st_216 : TypeId := 216
abbrev t_impl_Last : TypeId := 217
abbrev t_func_218 : TypeId := 218
abbrev t_u64' : TypeId := 219
abbrev t_func_220 : TypeId := 220
abbrev t_func_221 : TypeId := 221
abbrev t_func_222 : TypeId := 222
abbrev t_func_223 : TypeId := 223
abbrev t_func_224 : TypeId := 224
abbrev t_func_225 : TypeId := 225
abbrev t_func_226 : TypeId := 226
abbrev t_func_227 : TypeId := 227
abbrev t_func_228 : TypeId := 228
abbrev t_func_229 : TypeId := 229
abbrev t_st_230 : TypeId := 230
abbrev t_impl_packet : TypeId := 231
abbrev t_func_232 : TypeId := 232
abbrev t_func_233 : TypeId := 233
abbrev t_func_234 : TypeId := 234
abbrev t_func_235 : TypeId := 235
abbrev t_func_236 : TypeId := 236
abbrev t_func_237 : TypeId := 237
abbrev t_func_238 : TypeId := 238
abbrev t_func_239 : TypeId := 239
abbrev t_func_240 : TypeId := 240
abbrev t_func_241 : TypeId := 241
abbrev t_func_242 : TypeId := 242
abbrev t_func_243 : TypeId := 243
abbrev t_func_244 : TypeId := 244
abbrev t_sl_string : TypeId := 245
abbrev t_st_246 : TypeId := 246
abbrev t_impl_Fact : TypeId := 247
abbrev t_func_248 : TypeId := 248
abbrev t_func_249 : TypeId := 249
abbrev t_func_250 : TypeId := 250
abbrev t_func_251 : TypeId := 251
abbrev t_func_252 : TypeId := 252
abbrev t_func_253 : TypeId := 253
abbrev t_func_254 : TypeId := 254
abbrev t_func_255 : TypeId := 255
abbrev t_ptr_impl_State : TypeId := 256
abbrev t_func_257 : TypeId := 257
abbrev t_func_258 : TypeId := 258
abbrev t_func_259 : TypeId := 259
abbrev t_func_260 : TypeId := 260
abbrev t_func_261 : TypeId := 261
abbrev t_func_262 : TypeId := 262
abbrev t_func_263 : TypeId := 263
abbrev t_func_264 : TypeId := 264
abbrev t_func_265 : TypeId := 265
abbrev t_func_266 : TypeId := 266
abbrev t_func_267 : TypeId := 267
abbrev t_func_268 : TypeId := 268
abbrev t_func_269 : TypeId := 269
abbrev t_func_270 : TypeId := 270
abbrev t_func_271 : TypeId := 271
abbrev t_st_272 : TypeId := 272
abbrev t_runtime_TypeAssertionError : TypeId := 273
abbrev t_array_274 : TypeId := 274
abbrev t_st_275 : TypeId := 275
abbrev t_runtime_PanicNilError : TypeId := 276
abbrev t_u32 : TypeId := 277
abbrev t_abi_TFlag : TypeId := 278
abbrev t_abi_Kind : TypeId := 279
abbrev t_func_280 : TypeId := 280
abbrev t_ptr_byte : TypeId := 281
abbrev t_abi_NameOff : TypeId := 282
abbrev t_abi_TypeOff : TypeId := 283
abbrev t_st_284 : TypeId := 284
abbrev t_abi_Type : TypeId := 285
abbrev t_other_286 : TypeId := 286
def n_runtime_boundsError (x : V) : V := .agg [.int .i64 (gi x 0), .int .i64 (gi x 1), .bool (gb x 2), .int .u8 (gi x 3)]
def n_runtime_errorAddressString (x : V) : V := .agg [.str (gs x 0), .int .u64 (gi x 1)]
def n_impl_Table (x : V) : V := .agg [.int .i64 (gi x 0), .inl t_impl_Member (gl x 1)]
def n_impl_Member (x : V) : V := .agg [.int .i64 (gi x 0), .int .i64 (gi x 1), .int .i64 (gi x 2)]
def n_impl_Node (x : V) : V := .agg [.int .i64 (gi x 0), .int .i64 (gi x 1), .int .i64 (gi x 2), .inl t_impl_Item (gl x 3), .int .i64 (gi x 4), .int .i64 (gi x 5), .int .i64 (gi x 6), .int .i64 (gi x 7), .inl t_bool (gl x 8), .inl t_int' (gl x 9), .inl t_int' (gl x 10)]
def n_impl_Msg (x : V) : V := .agg [.int .i64 (gi x 0), .int .i64 (gi x 1), .int .i64 (gi x 2), .int .i64 (gi x 3), .int .i64 (gi x 4), .int .i64 (gi x 5), .inl t_impl_Item (gl x 6), .int .i64 (gi x 7), .bool (gb x 8)]
def n_impl_Prober (x : V) : V := .agg [.inl t_int' (gl x 0), .int .i64 (gi x 1), .int .i64 (gi x 2), .int .i64 (gi x 3), .int .i64 (gi x 4), .int .i64 (gi x 5)]
def n_impl_Op (x : V) : V := .agg [.int .i64 (gi x 0), .inl t_byte (gl x 1), .inl t_byte (gl x 2), .int .i64 (gi x 3)]
def n_impl_Action (x : V) : V := .agg [.int .i64 (gi x 0), .int .i64 (gi x 1), .int .i64 (gi x 2), .int .i64 (gi x 3), .inl t_byte (gl x 4), .inl t_byte (gl x 5), .int .i64 (gi x 6), .inl t_byte (gl x 7)]
def n_impl_Result (x : V) : V := .agg [.bool (gb x 0), .bool (gb x 1), .inl t_impl_Fact (gl x 2), .inl t_impl_Call (gl x 3), .inl t_impl_Note (gl x 4), .inl t_impl_Note (gl x 5), .inl t_impl_Node (gl x 6), .inl t_impl_State (gl x 7), .inl t_bool (gl x 8), .int .i64 (gi x 9), .int .i64 (gi x 10)]
def n_impl_Reply (x : V) : V := .agg [.int .i64 (gi x 0), .int .i64 (gi x 1)]
def n_impl_Call (x : V) : V := .agg [.int .i64 (gi x 0), .int .i64 (gi x 1), .int .i64 (gi x 2), .inl t_byte (gl x 3), .inl t_byte (gl x 4), .int .i64 (gi x 5), .int .i64 (gi x 6), .int .i64 (gi x 7), .int .i64 (gi x 8), .int .i64 (gi x 9)]
def n_impl_View (x : V) : V := .agg [.int .i64 (gi x 0), .bool (gb x 1), .inl t_byte (gl x 2)]
def n_impl_Note (x : V) : V := .agg [.int .i64 (gi x 0), .int .i64 (gi x 1), .inl t_byte (gl x 2), .int .i64 (gi x 3), .int .i64 (gi x 4), .int .i64 (gi x 5), .bool (gb x 6), .inl t_byte (gl x 7)]
def n_impl_Cmd (x : V) : V := .agg [.int .i64 (gi x 0), .int .i64 (gi x 1), .int .i64 (gi x 2), .inl t_byte (gl x 3), .inl t_byte (gl x 4), .int .i64 (gi x 5)]
def n_impl_Item (x : V) : V := .agg [.int .i64 (gi x 0), .int .i64 (gi x 1), .int .i64 (gi x 2), .int .i64 (gi x 3), .inl t_byte (gl x 4), .inl t_byte (gl x 5), .int .i64 (gi x 6)]
def n_impl_server (x : V) : V := .agg [.int .i64 (gi x 0), .int .i64 (gi x 1), .int .i64 (gi x 2), .inl t_impl_Item (gl x 3), .int .i64 (gi x 4), .int .i64 (gi x 5), .int .i64 (gi x 6), .int .i64 (gi x 7), .inl t_bool (gl x 8), .inl t_int' (gl x 9), .inl t_int' (gl x 10), .inl t_impl_Msg (gl x 11)]
def n_spec_l1Cur (x : V) : V := .agg [.inl t_byte (gl x 0), .int .i64 (gi x 1), .int .i64 (gi x 2)]
def n_impl_cluster (x : V) : V := .agg [.inl t_ptr_impl_seat (gl x 0), .inl t_int' (gl x 1), .inl t_int' (gl x 2), .inl t_impl_packet (gl x 3), .int .i64 (gi x 4), .bool (gb x 5), .bool (gb x 6), .inl t_impl_Fact (gl x 7), .inl t_impl_Call (gl x 8), .inl t_impl_Note (gl x 9), .inl t_impl_Note (gl x 10), .inl t_impl_Node (gl x 11), .inl t_impl_State (gl x 12), .inl t_bool (gl x 13), .int .i64 (gi x 14), .int .i64 (gi x 15)]
def n_impl_State (x : V) : V := .agg [.int .i64 (gi x 0), .inl t_impl_Row (gl x 1), .inl t_impl_Tomb (gl x 2), .int .i64 (gi x 3), .inl t_impl_Session (gl x 4), .inl t_impl_Last (gl x 5)]
def n_impl_seat (x : V) : V := .agg [.int .i64 (gi x 0), .int .i64 (gi x 1), .int .i64 (gi x 2), .inl t_impl_Item (gl x 3), .int .i64 (gi x 4), .int .i64 (gi x 5), .int .i64 (gi x 6), .int .i64 (gi x 7), .inl t_bool (gl x 8), .inl t_int' (gl x 9), .inl t_int' (gl x 10), .int .i64 (gi x 11), .inl t_impl_Row (gl x 12), .inl t_impl_Tomb (gl x 13), .int .i64 (gi x 14), .inl t_impl_Session (gl x 15), .inl t_impl_Last (gl x 16), .int .i64 (gi x 17), .bool (gb x 18), .inl t_impl_watch (gl x 19)]
def n_impl_watch (x : V) : V := .agg [.inl t_byte (gl x 0), .int .i64 (gi x 1)]
def n_impl_Row (x : V) : V := .agg [.inl t_byte (gl x 0), .inl t_byte (gl x 1), .int .i64 (gi x 2), .int .i64 (gi x 3)]
def n_impl_Session (x : V) : V := .agg [.int .i64 (gi x 0), .bool (gb x 1)]
def n_impl_Last (x : V) : V := .agg [.int .i64 (gi x 0), .int .i64 (gi x 1), .int .i64 (gi x 2), .int .i64 (gi x 3)]
def n_impl_packet (x : V) : V := .agg [.int .i64 (gi x 0), .int .i64 (gi x 1), .int .i64 (gi x 2), .int .i64 (gi x 3), .int .i64 (gi x 4), .int .i64 (gi x 5), .int .i64 (gi x 6), .inl t_impl_Item (gl x 7), .int .i64 (gi x 8), .bool (gb x 9), .int .i64 (gi x 10), .int .i64 (gi x 11), .int .i64 (gi x 12), .int .i64 (gi x 13), .inl t_byte (gl x 14), .inl t_byte (gl x 15), .int .i64 (gi x 16), .int .i64 (gi x 17), .int .i64 (gi x 18), .int .i64 (gi x 19), .int .i64 (gi x 20)]
abbrev vi (n : Int) : V := .int .i64 n
abbrev w6 (n : Int) : Int := IntKind.i64.wrap n
abbrev vs (k : Nat) (T : TypeId) : V := .sl k T 0 none
abbrev ln (l : List V) : Int := ((l.length : Nat) : Int)
abbrev aliveB : Bool := true
def noL : Loops := ⟨fun _ => [], fun _ => [], fun _ => [], runL [], [], fun _ => []⟩
theorem noLo {cfg : Cfg} {fn : Func} : LoopsOk cfg noL (bodyOf fn) := GoodAll.ok (l := []) GoodAll.nil rfl
end Go.Eng.R
open Go Go.Eng
namespace Go.Eng.R
def spec_l1New_l3 : Nat → List V → Int → Int → Option (List V × Int)
  | 0, _, _, _ => none
  | k_ + 1, code0, h3, i4 =>
    bif (decide (i4 < ((code0.length : Nat) : Int))) then
      bif (decide (i4 < 4000)) then
        bif (idxOk i4 code0.length) then
          spec_l1New_l3 k_ code0 (bAnd .i64 (IntKind.i64.wrap ((IntKind.i64.wrap ((IntKind.i64.wrap (h3 * 131)) + (IntKind.i64.wrap (gi (rd code0 i4.toNat) 0)))) + 7)) 1073741823) (IntKind.i64.wrap (i4 + 1))
        else none
      else some (code0, h3)
    else some (code0, h3)
def spec_l1New (code : List V) : Option (V) :=
  Option.bind (spec_l1New_l3 ((((code.length : Nat) : Int) - 0).toNat + 1) code (IntKind.i64.wrap (36565 + ((code.length : Nat) : Int))) 0) fun r1 =>
  some (V.agg [(V.inl t_byte r1.1), (V.int .i64 0), (V.int .i64 r1.2)])
def spec_l1Byte (c : V) : Option (Int × V) :=
  bif (decide ((gi c 1) < (((gl c 0).length : Nat) : Int))) then
    bif (idxOk (gi c 1) ((gl c 0).length)) then
      some ((bAnd .i64 (IntKind.i64.wrap ((bAnd .i64 (bXor .i64 (sShr .i64 (IntKind.i64.wrap ((IntKind.i64.wrap ((gi c 2) * 6364136223846793005)) + 1442695040888963407)) 33) (sShr .i64 (IntKind.i64.wrap ((IntKind.i64.wrap ((gi c 2) * 6364136223846793005)) + 1442695040888963407)) 45)) 255) + (IntKind.i64.wrap (gi (rd (gl c 0) ((gi c 1).toNat)) 0)))) 255), (V.agg [(V.inl t_byte (gl c 0)), (V.int .i64 (IntKind.i64.wrap ((gi c 1) + 1))), (V.int .i64 (IntKind.i64.wrap ((IntKind.i64.wrap ((gi c 2) * 6364136223846793005)) + 1442695040888963407)))]))
    else none
  else some ((bAnd .i64 (bXor .i64 (sShr .i64 (IntKind.i64.wrap ((IntKind.i64.wrap ((gi c 2) * 6364136223846793005)) + 1442695040888963407)) 33) (sShr .i64 (IntKind.i64.wrap ((IntKind.i64.wrap ((gi c 2) * 6364136223846793005)) + 1442695040888963407)) 45)) 255), (V.agg [(V.inl t_byte (gl c 0)), (V.int .i64 (gi c 1)), (V.int .i64 (IntKind.i64.wrap ((IntKind.i64.wrap ((gi c 2) * 6364136223846793005)) + 1442695040888963407)))]))
def spec_l1Below (c : V) (n : Int) : Option (Int × V) :=
  bif (decide (n ≤ 0)) then
    some (0, (n_spec_l1Cur c))
  else bif (decide (n ≤ 256)) then
    Option.bind (spec_l1Byte (n_spec_l1Cur c)) fun r3 =>
    bif (!(decide (n = 0))) then
      some ((r3.1.tmod n), (n_spec_l1Cur r3.2))
    else none
  else Option.bind (spec_l1Byte (n_spec_l1Cur c)) fun r4 =>
  Option.bind (spec_l1Byte (n_spec_l1Cur r4.2)) fun r5 =>
  Option.bind (spec_l1Byte (n_spec_l1Cur r5.2)) fun r6 =>
  Option.bind (spec_l1Byte (n_spec_l1Cur r6.2)) fun r7 =>
  bif (!(decide (n = 0))) then
    some (((IntKind.i64.wrap ((IntKind.i64.wrap ((IntKind.i64.wrap ((IntKind.i64.wrap (r4.1 * 16777216)) + (IntKind.i64.wrap (r5.1 * 65536)))) + (IntKind.i64.wrap (r6.1 * 256)))) + r7.1)).tmod n), (n_spec_l1Cur r7.2))
  else none
def spec_TableNew (self : Int) : V × Bool :=
  bif (decide (self < 0)) then
    ((V.agg [(V.int .i64 0), (V.inl t_impl_Member [])]), false)
  else bif (decide ((12 : Int) ≤ self)) then
    ((V.agg [(V.int .i64 0), (V.inl t_impl_Member [])]), false)
  else ((V.agg [(V.int .i64 self), (V.inl t_impl_Member [(V.agg [(V.int .i64 self), (V.int .i64 0), (V.int .i64 0)])])]), true)
def spec_l10member (c : V) : Option (V × V) :=
  Option.bind (spec_l1Below (n_spec_l1Cur c) 6) fun r14 =>
  Option.bind (spec_l1Below (n_spec_l1Cur r14.2) 4) fun r15 =>
  Option.bind (spec_l1Below (n_spec_l1Cur r15.2) 4) fun r16 =>
  some ((V.agg [(V.int .i64 r14.1), (V.int .i64 r15.1), (V.int .i64 r16.1)]), (n_spec_l1Cur r16.2))
def spec_l10find_l2 : Nat → Int → Int → V → Option (Nat × Int)
  | 0, _, _, _ => none
  | k_ + 1, id1, i5, b0 =>
    bif (decide (i5 < (((gl b0 1).length : Nat) : Int))) then
      bif (idxOk i5 ((gl b0 1).length)) then
        bif (decide ((gi (rd (gl b0 1) i5.toNat) 0) = id1)) then
          some (0, i5)
        else spec_l10find_l2 k_ id1 (IntKind.i64.wrap (i5 + 1)) (n_impl_Table b0)
      else none
    else some (1, 0)
def spec_l10find (t : V) (id : Int) : Option (Int) :=
  Option.bind (spec_l10find_l2 (((((gl (n_impl_Table t) 1).length : Nat) : Int) - 0).toNat + 1) id 0 (n_impl_Table t)) fun r18 =>
  bif (Nat.beq r18.1 0) then
    some r18.2
  else some (-1)
def spec_Beats (a : V) (b : V) : Bool :=
  bif (decide ((gi a 0) = (gi b 0))) then
    bif (decide ((gi b 2) < (gi a 2))) then
      true
    else bif (decide ((gi a 2) = (gi b 2))) then
      (decide ((gi b 1) < (gi a 1)))
    else false
  else false
def spec_l10say_l4 : Nat → Int → V → V → List V → Option (Int × V × V × List V)
  | 0, _, _, _, _ => none
  | k_ + 1, k6, b0, b1, r2 =>
    bif (decide (k6 < ((r2.length : Nat) : Int))) then
      bif (idxOk k6 r2.length) then
        bif (decide ((gi (rd r2 (0 + k6.toNat)) 0) < (gi b1 0))) then
          spec_l10say_l4 k_ (IntKind.i64.wrap (k6 + 1)) (V.agg [(V.int .i64 (gi b0 0)), (V.sl 2 t_impl_Member 0 none)]) (n_impl_Member b1) r2
        else some (k6, (V.agg [(V.int .i64 (gi b0 0)), (V.sl 2 t_impl_Member 0 none)]), (n_impl_Member b1), r2)
      else none
    else some (k6, (V.agg [(V.int .i64 (gi b0 0)), (V.sl 2 t_impl_Member 0 none)]), (n_impl_Member b1), r2)
def spec_l10say (t : V) (m : V) : Option (Bool × V) :=
  Option.bind (spec_l10find (n_impl_Table t) (gi m 0)) fun r19 =>
  bif (decide (r19 < 0)) then
    Option.bind (spec_l10say_l4 (((((gl t 1).length : Nat) : Int) - 0).toNat + 1) 0 (V.agg [(V.int .i64 (gi t 0)), (V.sl 2 t_impl_Member 0 none)]) (n_impl_Member m) (gl t 1)) fun r20 =>
    bif ((decide ((0 : Int) ≤ r20.1)) && (decide (r20.1 ≤ ((r20.2.2.2.length : Nat) : Int)))) then
      bif ((roomy (0 + ((r20.2.2.2.take r20.1.toNat).length)) 24) && true) then
        bif ((roomy (((r20.2.2.2.take r20.1.toNat).length) + 1) 24) && true) then
          bif ((decide ((0 : Int) ≤ r20.1)) && (decide (r20.1 ≤ ((r20.2.2.2.length : Nat) : Int)))) then
            bif ((roomy ((((r20.2.2.2.take r20.1.toNat) ++ [(n_impl_Member r20.2.2.1)]).length) + ((r20.2.2.2.drop (0 + r20.1.toNat)).length)) 24) && true) then
              some (true, (V.agg [(V.int .i64 (gi r20.2.1 0)), (V.inl t_impl_Member (((r20.2.2.2.take r20.1.toNat) ++ [(n_impl_Member r20.2.2.1)]) ++ (r20.2.2.2.drop (0 + r20.1.toNat))))]))
            else none
          else none
        else none
      else none
    else none
  else bif (idxOk r19 ((gl t 1).length)) then
    bif (!(spec_Beats (n_impl_Member m) (n_impl_Member (rd (gl t 1) (0 + r19.toNat))))) then
      some (false, (n_impl_Table t))
    else bif (decide ((gi m 0) = (gi t 0))) then
      bif (idxOk r19 ((gl t 1).length)) then
        bif (decide ((gi (rd (gl t 1) (0 + r19.toNat)) 1) = 0)) then
          bif (!(decide ((gi m 1) = 0))) then
            bif (decide ((gi m 2) < 1000)) then
              bif (idxOk r19 ((gl t 1).length)) then
                some (true, (V.agg [(V.int .i64 (gi t 0)), (V.inl t_impl_Member ((gl t 1).set (0 + r19.toNat) (V.agg [(V.int .i64 (gi (rd (gl t 1) (0 + r19.toNat)) 0)), (V.int .i64 (gi (rd (gl t 1) (0 + r19.toNat)) 1)), (V.int .i64 (IntKind.i64.wrap ((gi m 2) + 1)))])))]))
              else none
            else bif (decide ((gi m 0) = (gi t 0))) then
              bif (idxOk r19 ((gl t 1).length)) then
                bif (decide ((gi (rd (gl t 1) (0 + r19.toNat)) 1) = 3)) then
                  bif (decide ((gi m 2) < 1000)) then
                    bif (idxOk r19 ((gl t 1).length)) then
                      some (true, (V.agg [(V.int .i64 (gi t 0)), (V.inl t_impl_Member ((gl t 1).set (0 + r19.toNat) (V.agg [(V.int .i64 (gi (rd (gl t 1) (0 + r19.toNat)) 0)), (V.int .i64 (gi (rd (gl t 1) (0 + r19.toNat)) 1)), (V.int .i64 (gi m 2))])))]))
                    else none
                  else bif (idxOk r19 ((gl t 1).length)) then
                    some (true, (V.agg [(V.int .i64 (gi t 0)), (V.inl t_impl_Member ((gl t 1).set (0 + r19.toNat) (n_impl_Member m)))]))
                  else none
                else bif (idxOk r19 ((gl t 1).length)) then
                  some (true, (V.agg [(V.int .i64 (gi t 0)), (V.inl t_impl_Member ((gl t 1).set (0 + r19.toNat) (n_impl_Member m)))]))
                else none
              else none
            else bif (idxOk r19 ((gl t 1).length)) then
              some (true, (V.agg [(V.int .i64 (gi t 0)), (V.inl t_impl_Member ((gl t 1).set (0 + r19.toNat) (n_impl_Member m)))]))
            else none
          else bif (decide ((gi m 0) = (gi t 0))) then
            bif (idxOk r19 ((gl t 1).length)) then
              bif (decide ((gi (rd (gl t 1) (0 + r19.toNat)) 1) = 3)) then
                bif (decide ((gi m 2) < 1000)) then
                  bif (idxOk r19 ((gl t 1).length)) then
                    some (true, (V.agg [(V.int .i64 (gi t 0)), (V.inl t_impl_Member ((gl t 1).set (0 + r19.toNat) (V.agg [(V.int .i64 (gi (rd (gl t 1) (0 + r19.toNat)) 0)), (V.int .i64 (gi (rd (gl t 1) (0 + r19.toNat)) 1)), (V.int .i64 (gi m 2))])))]))
                  else none
                else bif (idxOk r19 ((gl t 1).length)) then
                  some (true, (V.agg [(V.int .i64 (gi t 0)), (V.inl t_impl_Member ((gl t 1).set (0 + r19.toNat) (n_impl_Member m)))]))
                else none
              else bif (idxOk r19 ((gl t 1).length)) then
                some (true, (V.agg [(V.int .i64 (gi t 0)), (V.inl t_impl_Member ((gl t 1).set (0 + r19.toNat) (n_impl_Member m)))]))
              else none
            else none
          else bif (idxOk r19 ((gl t 1).length)) then
            some (true, (V.agg [(V.int .i64 (gi t 0)), (V.inl t_impl_Member ((gl t 1).set (0 + r19.toNat) (n_impl_Member m)))]))
          else none
        else bif (decide ((gi m 0) = (gi t 0))) then
          bif (idxOk r19 ((gl t 1).length)) then
            bif (decide ((gi (rd (gl t 1) (0 + r19.toNat)) 1) = 3)) then
              bif (decide ((gi m 2) < 1000)) then
                bif (idxOk r19 ((gl t 1).length)) then
                  some (true, (V.agg [(V.int .i64 (gi t 0)), (V.inl t_impl_Member ((gl t 1).set (0 + r19.toNat) (V.agg [(V.int .i64 (gi (rd (gl t 1) (0 + r19.toNat)) 0)), (V.int .i64 (gi (rd (gl t 1) (0 + r19.toNat)) 1)), (V.int .i64 (gi m 2))])))]))
                else none
              else bif (idxOk r19 ((gl t 1).length)) then
                some (true, (V.agg [(V.int .i64 (gi t 0)), (V.inl t_impl_Member ((gl t 1).set (0 + r19.toNat) (n_impl_Member m)))]))
              else none
            else bif (idxOk r19 ((gl t 1).length)) then
              some (true, (V.agg [(V.int .i64 (gi t 0)), (V.inl t_impl_Member ((gl t 1).set (0 + r19.toNat) (n_impl_Member m)))]))
            else none
          else none
        else bif (idxOk r19 ((gl t 1).length)) then
          some (true, (V.agg [(V.int .i64 (gi t 0)), (V.inl t_impl_Member ((gl t 1).set (0 + r19.toNat) (n_impl_Member m)))]))
        else none
      else none
    else bif (decide ((gi m 0) = (gi t 0))) then
      bif (idxOk r19 ((gl t 1).length)) then
        bif (decide ((gi (rd (gl t 1) (0 + r19.toNat)) 1) = 3)) then
          bif (decide ((gi m 2) < 1000)) then
            bif (idxOk r19 ((gl t 1).length)) then
              some (true, (V.agg [(V.int .i64 (gi t 0)), (V.inl t_impl_Member ((gl t 1).set (0 + r19.toNat) (V.agg [(V.int .i64 (gi (rd (gl t 1) (0 + r19.toNat)) 0)), (V.int .i64 (gi (rd (gl t 1) (0 + r19.toNat)) 1)), (V.int .i64 (gi m 2))])))]))
            else none
          else bif (idxOk r19 ((gl t 1).length)) then
            some (true, (V.agg [(V.int .i64 (gi t 0)), (V.inl t_impl_Member ((gl t 1).set (0 + r19.toNat) (n_impl_Member m)))]))
          else none
        else bif (idxOk r19 ((gl t 1).length)) then
          some (true, (V.agg [(V.int .i64 (gi t 0)), (V.inl t_impl_Member ((gl t 1).set (0 + r19.toNat) (n_impl_Member m)))]))
        else none
      else none
    else bif (idxOk r19 ((gl t 1).length)) then
      some (true, (V.agg [(V.int .i64 (gi t 0)), (V.inl t_impl_Member ((gl t 1).set (0 + r19.toNat) (n_impl_Member m)))]))
    else none
  else none
def spec_l1Once (c : V) (n : Int) : Option (Bool × V) :=
  Option.bind (spec_l1Below (n_spec_l1Cur c) n) fun r23 =>
  some ((decide (r23.1 = 0)), (n_spec_l1Cur r23.2))
def spec_MemberOk (m : V) : Bool :=
  bif (decide ((0 : Int) ≤ (gi m 0))) then
    bif (decide ((gi m 0) < 12)) then
      bif (decide ((0 : Int) ≤ (gi m 1))) then
        bif (decide ((gi m 1) ≤ 3)) then
          bif (decide ((0 : Int) ≤ (gi m 2))) then
            (decide ((gi m 2) ≤ 1000))
          else false
        else false
      else false
    else false
  else false
def spec_TableOk_l4 : Nat → Int → V → Option (Nat × Bool × V)
  | 0, _, _ => none
  | k_ + 1, i3, b0 =>
    bif (decide (i3 < (((gl b0 1).length : Nat) : Int))) then
      bif (idxOk i3 ((gl b0 1).length)) then
        bif (!(spec_MemberOk (n_impl_Member (rd (gl b0 1) i3.toNat)))) then
          some (0, false, (n_impl_Table b0))
        else bif (decide ((0 : Int) < i3)) then
          bif (idxOk (IntKind.i64.wrap (i3 - 1)) ((gl b0 1).length)) then
            bif (idxOk i3 ((gl b0 1).length)) then
              bif (decide ((gi (rd (gl b0 1) i3.toNat) 0) ≤ (gi (rd (gl b0 1) ((IntKind.i64.wrap (i3 - 1)).toNat)) 0))) then
                some (0, false, (n_impl_Table b0))
              else spec_TableOk_l4 k_ (IntKind.i64.wrap (i3 + 1)) (n_impl_Table b0)
            else none
          else none
        else spec_TableOk_l4 k_ (IntKind.i64.wrap (i3 + 1)) (n_impl_Table b0)
      else none
    else some (1, false, (n_impl_Table b0))
def spec_TableOk (t : V) : Option (Bool) :=
  bif (decide ((12 : Int) < (((gl t 1).length : Nat) : Int))) then
    some false
  else Option.bind (spec_TableOk_l4 (((((gl (n_impl_Table t) 1).length : Nat) : Int) - 0).toNat + 1) 0 (n_impl_Table t)) fun r25 =>
  bif (Nat.beq r25.1 0) then
    some r25.2.1
  else Option.bind (spec_l10find (n_impl_Table r25.2.2) (gi r25.2.2 0)) fun r26 =>
  bif (decide ((0 : Int) ≤ r26)) then
    bif (idxOk r26 ((gl r25.2.2 1).length)) then
      bif (decide ((gi (rd (gl r25.2.2 1) r26.toNat) 1) = 0)) then
        some true
      else bif (idxOk r26 ((gl r25.2.2 1).length)) then
        bif (decide ((gi (rd (gl r25.2.2 1) r26.toNat) 1) = 3)) then
          some true
        else bif (idxOk r26 ((gl r25.2.2 1).length)) then
          some (decide ((gi (rd (gl r25.2.2 1) r26.toNat) 2) = 1000))
        else none
      else none
    else none
  else some false
def spec_l10own (t : V) : Option (V) :=
  bif ((roomy (0 + ((gl t 1).length)) 24) && true) then
    some (n_impl_Table t)
  else none
def spec_Leave (t : V) : Option (V × Bool) :=
  Option.bind (spec_TableOk (n_impl_Table t)) fun r27 =>
  bif (!r27) then
    some ((V.agg [(V.int .i64 0), (V.inl t_impl_Member [])]), false)
  else Option.bind (spec_l10own (n_impl_Table t)) fun r28 =>
  Option.bind (spec_l10find (n_impl_Table r28) (gi t 0)) fun r29 =>
  bif (idxOk r29 ((gl r28 1).length)) then
    bif (decide ((gi (rd (gl r28 1) (0 + r29.toNat)) 1) = 3)) then
      some ((n_impl_Table r28), false)
    else bif (idxOk r29 ((gl r28 1).length)) then
      some ((V.agg [(V.int .i64 (gi r28 0)), (V.inl t_impl_Member ((gl r28 1).set (0 + r29.toNat) (V.agg [(V.int .i64 (gi (rd (gl r28 1) (0 + r29.toNat)) 0)), (V.int .i64 3), (V.int .i64 (gi (rd (gl r28 1) (0 + r29.toNat)) 2))])))]), true)
    else none
  else none
def spec_l10table_l4 : Nat → Int → Int → V → V → V → List V → List V → Option (V × V × V × List V × List V)
  | 0, _, _, _, _, _, _, _ => none
  | k_ + 1, n5, i6, b0, b1, b2, r3, r4 =>
    bif (decide (i6 < n5)) then
      Option.bind (spec_l10member (n_spec_l1Cur b0)) fun r17 =>
      Option.bind (spec_l10say (V.agg [(V.int .i64 (gi b2 0)), (V.inl t_impl_Member r4)]) (n_impl_Member r17.1)) fun r21 =>
      spec_l10table_l4 k_ n5 (IntKind.i64.wrap (i6 + 1)) (n_spec_l1Cur r17.2) (V.agg [(V.int .i64 (gi b1 0)), (V.sl 3 t_impl_Member 0 none)]) (V.agg [(V.int .i64 (gi r21.2 0)), (V.sl 4 t_impl_Member 0 none)]) r3 (gl r21.2 1)
    else some ((n_spec_l1Cur b0), (V.agg [(V.int .i64 (gi b1 0)), (V.sl 3 t_impl_Member 0 none)]), (V.agg [(V.int .i64 (gi b2 0)), (V.sl 4 t_impl_Member 0 none)]), r3, r4)
def spec_l10table (c : V) : Option (V × V) :=
  Option.bind (spec_l1Below (n_spec_l1Cur c) 6) fun r11 =>
  rlet (spec_TableNew r11.1) fun r12 =>
  Option.bind (spec_l1Below (n_spec_l1Cur r11.2) 8) fun r13 =>
  Option.bind (spec_l10table_l4 ((r13.1 - 0).toNat + 1) r13.1 0 (n_spec_l1Cur r13.2) (V.agg [(V.int .i64 0), (V.sl 3 t_impl_Member 0 none)]) (V.agg [(V.int .i64 (gi r12.1 0)), (V.sl 4 t_impl_Member 0 none)]) [] (gl r12.1 1)) fun r22 =>
  Option.bind (spec_l1Once (n_spec_l1Cur r22.1) 8) fun r24 =>
  bif r24.1 then
    Option.bind (spec_Leave (V.agg [(V.int .i64 (gi r22.2.2.1 0)), (V.inl t_impl_Member r22.2.2.2.2)])) fun r30 =>
    some ((n_impl_Table r30.1), (n_spec_l1Cur r24.2))
  else some ((V.agg [(V.int .i64 (gi r22.2.2.1 0)), (V.inl t_impl_Member r22.2.2.2.2)]), (n_spec_l1Cur r24.2))
def spec_l1PickInt (c : V) (list : List V) : Option (Int × V) :=
  Option.bind (spec_l1Below (n_spec_l1Cur c) ((list.length : Nat) : Int)) fun r34 =>
  bif (idxOk r34.1 list.length) then
    some ((gi (rd list r34.1.toNat) 0), (n_spec_l1Cur r34.2))
  else none
def spec_l10bent (c : V) : Option (V × V) :=
  Option.bind (spec_l10table (n_spec_l1Cur c)) fun r31 =>
  Option.bind (spec_l1Once (n_spec_l1Cur r31.2) 7) fun r32 =>
  bif (!r32.1) then
    some ((n_impl_Table r31.1), (n_spec_l1Cur r32.2))
  else Option.bind (spec_l1Below (n_spec_l1Cur r32.2) 5) fun r33 =>
  bif (decide (r33.1 = 0)) then
    Option.bind (spec_l1PickInt (n_spec_l1Cur r33.2) [(V.int .i64 (-1)), (V.int .i64 11), (V.int .i64 12)]) fun r35 =>
    some ((V.agg [(V.int .i64 r35.1), (V.inl t_impl_Member (gl r31.1 1))]), (n_spec_l1Cur r35.2))
  else bif (decide (r33.1 = 1)) then
    Option.bind (spec_l10member (n_spec_l1Cur r33.2)) fun r36 =>
    bif ((roomy (((gl r31.1 1).length) + 1) 24) && true) then
      some ((V.agg [(V.int .i64 (gi r31.1 0)), (V.inl t_impl_Member ((gl r31.1 1) ++ [(n_impl_Member r36.1)]))]), (n_spec_l1Cur r36.2))
    else none
  else bif (decide (r33.1 = 2)) then
    Option.bind (spec_l1PickInt (n_spec_l1Cur r33.2) [(V.int .i64 (-1)), (V.int .i64 1), (V.int .i64 4)]) fun r37 =>
    bif (idxOk 0 ((gl r31.1 1).length)) then
      some ((V.agg [(V.int .i64 (gi r31.1 0)), (V.inl t_impl_Member ((gl r31.1 1).set 0 (V.agg [(V.int .i64 (gi (rd (gl r31.1 1) 0) 0)), (V.int .i64 r37.1), (V.int .i64 (gi (rd (gl r31.1 1) 0) 2))])))]), (n_spec_l1Cur r37.2))
    else none
  else bif (decide (r33.1 = 3)) then
    Option.bind (spec_l1PickInt (n_spec_l1Cur r33.2) [(V.int .i64 (-1)), (V.int .i64 1000), (V.int .i64 1001)]) fun r38 =>
    bif (idxOk 0 ((gl r31.1 1).length)) then
      some ((V.agg [(V.int .i64 (gi r31.1 0)), (V.inl t_impl_Member ((gl r31.1 1).set 0 (V.agg [(V.int .i64 (gi (rd (gl r31.1 1) 0) 0)), (V.int .i64 (gi (rd (gl r31.1 1) 0) 1)), (V.int .i64 r38.1)])))]), (n_spec_l1Cur r38.2))
    else none
  else bif (decide ((1 : Int) ≤ (((gl r31.1 1).length : Nat) : Int))) then
    some ((V.agg [(V.int .i64 (gi r31.1 0)), (V.inl t_impl_Member ((gl r31.1 1).drop 1))]), (n_spec_l1Cur r33.2))
  else none
def spec_DrawMerge (code : List V) : Option (V × V) :=
  Option.bind (spec_l1New code) fun r2 =>
  Option.bind (spec_l10bent (n_spec_l1Cur r2)) fun r39 =>
  Option.bind (spec_l10bent (n_spec_l1Cur r39.2)) fun r40 =>
  some ((n_impl_Table r39.1), (n_impl_Table r40.1))
def impl_within (n : Int) (low : Int) (high : Int) : Bool :=
  bif (decide (low ≤ n)) then
    (decide (n ≤ high))
  else false
def impl_MemberOk (m : V) : Bool :=
  bif impl_within (gi m 0) 0 11 then
    bif impl_within (gi m 1) 0 3 then
      (impl_within (gi m 2) 0 1000)
    else false
  else false
def cmp_isNaN_int (x : Int) : Bool :=
  (!(decide (x = x)))
def cmp_Compare_int (x : Int) (y : Int) : Int :=
  bif cmp_isNaN_int x then
    bif cmp_isNaN_int y then
      0
    else (-1)
  else bif cmp_isNaN_int y then
    1
  else bif (decide (x < y)) then
    (-1)
  else bif (decide (y < x)) then
    1
  else 0
def impl_Table_member_1 (m : V) (id : Int) : Int :=
  (cmp_Compare_int (gi m 0) id)
def slices_BinarySearchFunc_int_l3 : Nat → List V → Int → Int → Int → Int → Option (List V × Int × Int × Int)
  | 0, _, _, _, _, _ => none
  | k_ + 1, x0, target1, n8, i9, j10 =>
    bif (decide (i9 < j10)) then
      bif (idxOk (IntKind.i64.wrap (sShr .u64 (IntKind.u64.wrap (IntKind.i64.wrap (i9 + j10))) 1)) x0.length) then
        bif (decide ((impl_Table_member_1 (n_impl_Member (rd x0 ((IntKind.i64.wrap (sShr .u64 (IntKind.u64.wrap (IntKind.i64.wrap (i9 + j10))) 1)).toNat))) target1) < 0)) then
          slices_BinarySearchFunc_int_l3 k_ x0 target1 n8 (IntKind.i64.wrap ((IntKind.i64.wrap (sShr .u64 (IntKind.u64.wrap (IntKind.i64.wrap (i9 + j10))) 1)) + 1)) j10
        else slices_BinarySearchFunc_int_l3 k_ x0 target1 n8 i9 (IntKind.i64.wrap (sShr .u64 (IntKind.u64.wrap (IntKind.i64.wrap (i9 + j10))) 1))
      else none
    else some (x0, target1, n8, i9)
def slices_BinarySearchFunc_int (x : List V) (target : Int) : Option (Int × Bool) :=
  Option.bind (slices_BinarySearchFunc_int_l3 ((((x.length : Nat) : Int) - 0).toNat + 1) x target ((x.length : Nat) : Int) 0 ((x.length : Nat) : Int)) fun r43 =>
  bif (decide (r43.2.2.2 < r43.2.2.1)) then
    bif (idxOk r43.2.2.2 r43.1.length) then
      some (r43.2.2.2, (decide ((impl_Table_member_1 (n_impl_Member (rd r43.1 r43.2.2.2.toNat)) r43.2.1) = 0)))
    else none
  else some (r43.2.2.2, false)
def impl_Table_member (t : V) (id : Int) : Option (Int × Bool) :=
  Option.bind (slices_BinarySearchFunc_int (gl t 1) id) fun r44 =>
  some (r44.1, r44.2)
def impl_TableOk_l4 : Nat → List V → Int → Int → V → Option (Nat × Bool × V)
  | 0, _, _, _, _ => none
  | k_ + 1, v12, v13, v14, b0 =>
    bif (decide (v14 < v13)) then
      bif (idxOk v14 v12.length) then
        bif (!(impl_MemberOk (n_impl_Member (rd v12 v14.toNat)))) then
          some (0, false, (n_impl_Table b0))
        else bif (decide ((0 : Int) < v14)) then
          bif (idxOk (IntKind.i64.wrap (v14 - 1)) ((gl b0 1).length)) then
            bif (decide ((gi (rd v12 v14.toNat) 0) ≤ (gi (rd (gl b0 1) ((IntKind.i64.wrap (v14 - 1)).toNat)) 0))) then
              some (0, false, (n_impl_Table b0))
            else impl_TableOk_l4 k_ v12 v13 (IntKind.i64.wrap (v14 + 1)) (n_impl_Table b0)
          else none
        else impl_TableOk_l4 k_ v12 v13 (IntKind.i64.wrap (v14 + 1)) (n_impl_Table b0)
      else none
    else some (1, false, (n_impl_Table b0))
def impl_TableOk (t : V) : Option (Bool) :=
  bif (decide ((12 : Int) < (((gl t 1).length : Nat) : Int))) then
    some false
  else Option.bind (impl_TableOk_l4 (((((gl t 1).length : Nat) : Int) - 0).toNat + 1) (gl t 1) (((gl t 1).length : Nat) : Int) 0 (n_impl_Table t)) fun r42 =>
  bif (Nat.beq r42.1 0) then
    some r42.2.1
  else Option.bind (impl_Table_member (n_impl_Table r42.2.2) (gi r42.2.2 0)) fun r45 =>
  bif r45.2 then
    bif (idxOk r45.1 ((gl r42.2.2 1).length)) then
      bif (decide ((gi (rd (gl r42.2.2 1) r45.1.toNat) 1) = 0)) then
        some true
      else bif (idxOk r45.1 ((gl r42.2.2 1).length)) then
        bif (decide ((gi (rd (gl r42.2.2 1) r45.1.toNat) 1) = 3)) then
          some true
        else bif (idxOk r45.1 ((gl r42.2.2 1).length)) then
          some (decide ((gi (rd (gl r42.2.2 1) r45.1.toNat) 2) = 1000))
        else none
      else none
    else none
  else some false
def slices_Clone_Member (s : List V) : Option (List V) :=
  bif ((roomy (0 + s.length) 24) && true) then
    some s
  else none
def impl_Table_own (t : V) : Option (V) :=
  Option.bind (slices_Clone_Member (gl t 1)) fun r48 =>
  some (V.agg [(V.int .i64 (gi t 0)), (V.inl t_impl_Member r48)])
def impl_Beats (a : V) (b : V) : Bool :=
  bif (decide ((gi a 0) = (gi b 0))) then
    bif (decide ((gi b 2) < (gi a 2))) then
      true
    else bif (decide ((gi a 2) = (gi b 2))) then
      (decide ((gi b 1) < (gi a 1)))
    else false
  else false
def impl_Table_hear (t : V) (m : V) : Option (Bool × V) :=
  Option.bind (impl_Table_member (n_impl_Table t) (gi m 0)) fun r50 =>
  bif (!r50.2) then
    Option.bind (insV 24 (gl t 1) r50.1 [(n_impl_Member m)]) fun r51 =>
    some (true, (V.agg [(V.int .i64 (gi t 0)), (V.inl t_impl_Member r51)]))
  else bif (idxOk r50.1 ((gl t 1).length)) then
    bif (!(impl_Beats (n_impl_Member m) (n_impl_Member (rd (gl t 1) (0 + r50.1.toNat))))) then
      some (false, (n_impl_Table t))
    else bif (decide ((gi m 0) = (gi t 0))) then
      bif (decide ((gi m 2) < 1000)) then
        bif (decide ((gi (rd (gl t 1) (0 + r50.1.toNat)) 1) = 0)) then
          bif (!(decide ((gi m 1) = 0))) then
            some (true, (V.agg [(V.int .i64 (gi t 0)), (V.inl t_impl_Member ((gl t 1).set (0 + r50.1.toNat) (V.agg [(V.int .i64 (gi (rd (gl t 1) (0 + r50.1.toNat)) 0)), (V.int .i64 (gi (rd (gl t 1) (0 + r50.1.toNat)) 1)), (V.int .i64 (IntKind.i64.wrap ((gi m 2) + 1)))])))]))
          else bif (decide ((gi m 2) < 1000)) then
            bif (decide ((gi (rd (gl t 1) (0 + r50.1.toNat)) 1) = 3)) then
              some (true, (V.agg [(V.int .i64 (gi t 0)), (V.inl t_impl_Member ((gl t 1).set (0 + r50.1.toNat) (V.agg [(V.int .i64 (gi (rd (gl t 1) (0 + r50.1.toNat)) 0)), (V.int .i64 (gi (rd (gl t 1) (0 + r50.1.toNat)) 1)), (V.int .i64 (gi m 2))])))]))
            else some (true, (V.agg [(V.int .i64 (gi t 0)), (V.inl t_impl_Member ((gl t 1).set (0 + r50.1.toNat) (n_impl_Member m)))]))
          else some (true, (V.agg [(V.int .i64 (gi t 0)), (V.inl t_impl_Member ((gl t 1).set (0 + r50.1.toNat) (n_impl_Member m)))]))
        else bif (decide ((gi m 2) < 1000)) then
          bif (decide ((gi (rd (gl t 1) (0 + r50.1.toNat)) 1) = 3)) then
            some (true, (V.agg [(V.int .i64 (gi t 0)), (V.inl t_impl_Member ((gl t 1).set (0 + r50.1.toNat) (V.agg [(V.int .i64 (gi (rd (gl t 1) (0 + r50.1.toNat)) 0)), (V.int .i64 (gi (rd (gl t 1) (0 + r50.1.toNat)) 1)), (V.int .i64 (gi m 2))])))]))
          else some (true, (V.agg [(V.int .i64 (gi t 0)), (V.inl t_impl_Member ((gl t 1).set (0 + r50.1.toNat) (n_impl_Member m)))]))
        else some (true, (V.agg [(V.int .i64 (gi t 0)), (V.inl t_impl_Member ((gl t 1).set (0 + r50.1.toNat) (n_impl_Member m)))]))
      else bif (decide ((gi m 2) < 1000)) then
        bif (decide ((gi (rd (gl t 1) (0 + r50.1.toNat)) 1) = 3)) then
          some (true, (V.agg [(V.int .i64 (gi t 0)), (V.inl t_impl_Member ((gl t 1).set (0 + r50.1.toNat) (V.agg [(V.int .i64 (gi (rd (gl t 1) (0 + r50.1.toNat)) 0)), (V.int .i64 (gi (rd (gl t 1) (0 + r50.1.toNat)) 1)), (V.int .i64 (gi m 2))])))]))
        else some (true, (V.agg [(V.int .i64 (gi t 0)), (V.inl t_impl_Member ((gl t 1).set (0 + r50.1.toNat) (n_impl_Member m)))]))
      else some (true, (V.agg [(V.int .i64 (gi t 0)), (V.inl t_impl_Member ((gl t 1).set (0 + r50.1.toNat) (n_impl_Member m)))]))
    else some (true, (V.agg [(V.int .i64 (gi t 0)), (V.inl t_impl_Member ((gl t 1).set (0 + r50.1.toNat) (n_impl_Member m)))]))
  else none
def impl_Table_merge_l3 : Nat → Bool → List V → Int → Int → V → List V → Option (Bool × V × List V)
  | 0, _, _, _, _, _, _ => none
  | k_ + 1, changed5, v9, v10, v11, b0, r1 =>
    bif (decide (v11 < v10)) then
      bif (idxOk v11 v9.length) then
        Option.bind (impl_Table_hear (V.agg [(V.int .i64 (gi b0 0)), (V.inl t_impl_Member r1)]) (n_impl_Member (rd v9 v11.toNat))) fun r52 =>
        bif r52.1 then
          impl_Table_merge_l3 k_ true v9 v10 (IntKind.i64.wrap (v11 + 1)) (V.agg [(V.int .i64 (gi r52.2 0)), (V.sl 1 t_impl_Member 0 none)]) (gl r52.2 1)
        else impl_Table_merge_l3 k_ changed5 v9 v10 (IntKind.i64.wrap (v11 + 1)) (V.agg [(V.int .i64 (gi r52.2 0)), (V.sl 1 t_impl_Member 0 none)]) (gl r52.2 1)
      else none
    else some (changed5, (V.agg [(V.int .i64 (gi b0 0)), (V.sl 1 t_impl_Member 0 none)]), r1)
def impl_Table_merge (t : V) (o : V) : Option (Bool × V) :=
  Option.bind (impl_Table_merge_l3 (((((gl o 1).length : Nat) : Int) - 0).toNat + 1) false (gl o 1) (((gl o 1).length : Nat) : Int) 0 (V.agg [(V.int .i64 (gi t 0)), (V.sl 1 t_impl_Member 0 none)]) (gl t 1)) fun r53 =>
  some (r53.1, (V.agg [(V.int .i64 (gi r53.2.1 0)), (V.inl t_impl_Member r53.2.2)]))
def impl_Merge (t : V) (o : V) : Option (V × Bool) :=
  Option.bind (impl_TableOk (n_impl_Table t)) fun r46 =>
  bif (!r46) then
    some ((V.agg [(V.int .i64 0), (V.inl t_impl_Member [])]), false)
  else Option.bind (impl_TableOk (n_impl_Table o)) fun r47 =>
  bif (!r47) then
    some ((V.agg [(V.int .i64 0), (V.inl t_impl_Member [])]), false)
  else Option.bind (impl_Table_own (n_impl_Table t)) fun r49 =>
  Option.bind (impl_Table_merge (n_impl_Table r49) (n_impl_Table o)) fun r54 =>
  some ((n_impl_Table r54.2), r54.1)
def impl_Table_live_l3 : Nat → List V → Int → Int → List V → Option (List V)
  | 0, _, _, _, _ => none
  | k_ + 1, v7, v8, v9, r0 =>
    bif (decide (v9 < v8)) then
      bif (idxOk v9 v7.length) then
        bif (decide ((gi (rd v7 v9.toNat) 1) = 0)) then
          bif ((roomy (r0.length + 1) 8) && true) then
            impl_Table_live_l3 k_ v7 v8 (IntKind.i64.wrap (v9 + 1)) (r0 ++ [(V.int .i64 (gi (rd v7 v9.toNat) 0))])
          else none
        else bif (decide ((gi (rd v7 v9.toNat) 1) = 1)) then
          bif ((roomy (r0.length + 1) 8) && true) then
            impl_Table_live_l3 k_ v7 v8 (IntKind.i64.wrap (v9 + 1)) (r0 ++ [(V.int .i64 (gi (rd v7 v9.toNat) 0))])
          else none
        else impl_Table_live_l3 k_ v7 v8 (IntKind.i64.wrap (v9 + 1)) r0
      else none
    else some r0
def impl_Table_live (t : V) : Option (List V) :=
  Option.bind (impl_Table_live_l3 (((((gl t 1).length : Nat) : Int) - 0).toNat + 1) (gl t 1) (((gl t 1).length : Nat) : Int) 0 []) fun r62 =>
  some r62
def impl_Live (t : V) : Option (List V) :=
  Option.bind (impl_TableOk (n_impl_Table t)) fun r61 =>
  bif (!r61) then
    some []
  else Option.bind (impl_Table_live (n_impl_Table t)) fun r63 =>
  some r63
def laws_FnMerges_l10 : Nat → Int → Int → V → List V → Option (Int × V × List V)
  | 0, _, _, _, _ => none
  | k_ + 1, n9, i10, b0, r1 =>
    bif (decide (i10 < ((r1.length : Nat) : Int))) then
      bif (idxOk i10 r1.length) then
        bif (decide ((gi (rd r1 (0 + i10.toNat)) 1) ≤ 1)) then
          laws_FnMerges_l10 k_ (IntKind.i64.wrap (n9 + 1)) (IntKind.i64.wrap (i10 + 1)) (V.agg [(V.int .i64 (gi b0 0)), (V.sl 1 t_impl_Member 0 none)]) r1
        else laws_FnMerges_l10 k_ n9 (IntKind.i64.wrap (i10 + 1)) (V.agg [(V.int .i64 (gi b0 0)), (V.sl 1 t_impl_Member 0 none)]) r1
      else none
    else some (n9, (V.agg [(V.int .i64 (gi b0 0)), (V.sl 1 t_impl_Member 0 none)]), r1)
def laws_FnMerges (code : List V) : Option (Bool) :=
  Option.bind (spec_DrawMerge code) fun r41 =>
  Option.bind (impl_Merge (n_impl_Table r41.1) (n_impl_Table r41.2)) fun r55 =>
  Option.bind (spec_TableOk (n_impl_Table r41.1)) fun r56 =>
  bif (!r56) then
    bif (decide ((((gl r55.1 1).length : Nat) : Int) = 0)) then
      some aliveB
    else some false
  else Option.bind (spec_TableOk (n_impl_Table r41.2)) fun r57 =>
  bif (!r57) then
    bif (decide ((((gl r55.1 1).length : Nat) : Int) = 0)) then
      some aliveB
    else some false
  else Option.bind (impl_Merge (n_impl_Table r55.1) (n_impl_Table r41.2)) fun r58 =>
  bif r58.2 then
    some false
  else Option.bind (impl_TableOk (n_impl_Table r55.1)) fun r59 =>
  bif (!r59) then
    some false
  else Option.bind (laws_FnMerges_l10 (((((gl r55.1 1).length : Nat) : Int) - 0).toNat + 1) 0 0 (V.agg [(V.int .i64 (gi r55.1 0)), (V.sl 1 t_impl_Member 0 none)]) (gl r55.1 1)) fun r60 =>
  Option.bind (impl_Live (V.agg [(V.int .i64 (gi r60.2.1 0)), (V.inl t_impl_Member r60.2.2)])) fun r64 =>
  some (decide (((r64.length : Nat) : Int) = r60.1))
end Go.Eng.R
open Go Go.Eng Go.Proofs
namespace Go.Eng.R
theorem tab_ok : TabOk Tryz.prog tab := tabB_spec (by kernel_rfl)
theorem mixed : Tryz.prog.follows .mixedOrders = true := by kernel_rfl
theorem base : Base Tryz.prog tab := ⟨tab_ok, mixed⟩
def l0 (x : V) : List V := [(V.inl t_byte (gl x 0)), (V.int .i64 (gi x 1)), (V.int .i64 (gi x 2))]
def h1 (x : V) : V := V.agg [(V.int .i64 (gi x 0)), (V.rr t_impl_Member true (gl x 1))]
def l2 (x : V) : List V := [(V.int .i64 (gi x 0)), (V.int .i64 (gi x 1)), (V.int .i64 (gi x 2))]
def l3 (x : V) : List V := [(V.int .i64 (gi x 0)), (V.rr t_impl_Member true (gl x 1))]
def l4 (x : V) : List V := [(V.int .i64 (gi x 0)), (V.inl t_impl_Member (gl x 1))]
end Go.Eng.R
open Go Go.Eng Go.Proofs
namespace Go.Eng.R
theorem inf33 : (Tryz.prog.info? 33).map (·.size) = some 3 := by kernel_rfl
theorem sz33 : ∀ w, (Go.sizeOf 33).run Tryz.prog w = .ok 3 w := fun w => by kernel_rfl
theorem zv33 : ∀ w, (zeroValue 33).run Tryz.prog w = .ok (Value.agg #[.int .i64 0, .int .i64 0, .int .i64 0]) w := fun w => by kernel_rfl
theorem info33 : (Tryz.prog.info? 33).map (fun i => (i.zero, i.size, i.bytes)) = some (some (Value.agg #[.int .i64 0, .int .i64 0, .int .i64 0]), 3, 24) := by kernel_rfl
set_option maxHeartbeats 4000000 in
set_option maxRecDepth 1000000 in
theorem ins109_room (w : World) (g n cap i h caph : Nat) (cur curh : Array Value) (hg : w.heap[g]? = some (.cells cur 33 (0, 0))) (hs : cur.size = cap * 3) (hcm : cap ≤ maxLen) (h1 : OneL (cur.toList.take (n * 3)))
    (hh : w.heap[h]? = some (.cells curh 33 (0, 0))) (hhs : curh.size = caph * 3) (hc1 : 1 ≤ caph) (hne : h ≠ g) (h1h : OneL (curh.toList.take 3)) (hi : i < n) (hroom : n + 1 ≤ cap) :
    Calls Tryz.prog 109 #[.slice (some ⟨g, 0, none⟩) n cap, .int .i64 i, .slice (some ⟨h, 0, none⟩) 1 caph] w fun e w' => e = .returned (.slice (some ⟨g, 0, none⟩) (n + 1) cap) ∧
      ∃ cur' : Array Value, w'.heap[g]? = some (.cells cur' 33 (0, 0)) ∧ cur'.size = cap * 3 ∧ cur'.toList.take ((n + 1) * 3) = (cur.toList.take (n * 3)).take (i * 3) ++ curh.toList.take 3 ++ (cur.toList.take (n * 3)).drop (i * 3) ∧ KeptBut [g] w w' := by
  have hcmx : cap ≤ 9223372036854775807 := hcm
  have hz2 : ¬ ((i : Int) = (n : Int)) := by omega
  have hov : ∀ lb cb, (callFunc 153 #[.slice (some ⟨h, 0, none⟩) 1 caph, .slice (some ⟨g, (i + 1) * 3, none⟩) lb cb]).run Tryz.prog w = .ok (.value (.bool false)) w := fun lb cb => by
    rw [run_callFunc_extern Tryz.func153 (by kernel_rfl) (by kernel_rfl) (by kernel_rfl) (e := Extern.SlicesOverlaps.overlaps #[23, 23] #[4]) (by kernel_rfl),
      Lib.run_overlaps_apart w 23 4 33 Tryz.underlying23 3 sz33 ⟨h, 0, none⟩ ⟨g, (i + 1) * 3, none⟩ 1 caph lb cb hne 33 33 curh.size cur.size (by simp [World.shape?, hh]) (by simp [World.shape?, hg]) (by omega) (by simp [World.frozen?, hh]) (by simp [World.frozen?, hh])]
    rfl
  obtain ⟨tl, htl⟩ : ∃ tl, tl = (cur.toList.drop (i * 3)).take ((n - i) * 3) := ⟨_, rfl⟩
  have htll : tl.length = (n - i) * 3 := by rw [htl]; simp; omega
  have htl1 : ∀ v ∈ tl, v.oneCell' = true := fun v hv => h1 v (by
    rw [htl, show (cur.toList.drop (i * 3)).take ((n - i) * 3) = (cur.toList.take (n * 3)).drop (i * 3) from by rw [List.drop_take]; congr 1; omega] at hv
    exact List.mem_of_mem_drop hv)
  obtain ⟨c1, hc1'⟩ : ∃ c1, c1 = (cur.toList.take ((i + 1) * 3) ++ tl ++ cur.toList.drop ((i + 1) * 3 + tl.length)).toArray := ⟨_, rfl⟩
  have hc1s : c1.size = cap * 3 := by rw [hc1']; simp; omega
  have hcp1 : ∀ ty dc sc, (Builtin.copy_ #[23, 23] ty #[.slice (some ⟨g, (i + 1) * 3, none⟩) (n + 1 - (i + 1)) dc, .slice (some ⟨g, i * 3, none⟩) (n + 1 - i) sc]).run Tryz.prog w.drew = .ok (goInt (Nat.min (n + 1 - i) (n + 1 - (i + 1)))) (w.drew.setRow g c1) := fun ty dc sc => by
    rw [hc1']
    exact run_copy_k w.drew 23 23 ty 33 3 g ((i + 1) * 3) (n + 1 - (i + 1)) dc ⟨g, i * 3, none⟩ (n + 1 - i) sc cur 33 tl Tryz.underlying23 inf33 hg (by rw [htll]; simp only [Nat.min_def]; split <;> omega) (by rw [htl]; exact src_cells (w := w.drew) hg (by omega)) (by rw [htll]; omega) htl1
  obtain ⟨W1, hW1⟩ : ∃ W1, W1 = w.drew.setRow g c1 := ⟨_, rfl⟩
  rw [← hW1] at hcp1
  have hg1 : W1.heap[g]? = some (.cells c1 33 (0, 0)) := by rw [hW1]; exact setRow_heap _ g cur _ 33 _ hg
  have hh1 : W1.heap[h]? = some (.cells curh 33 (0, 0)) := by
    rw [hW1, ← hh]
    exact (KeptBut.setRow (w := w.drew) (F := [g]) (by simp) c1).block h (by have := (Array.getElem?_eq_some_iff.1 hh).1; exact this) (by simp [hne])
  obtain ⟨c2, hc2⟩ : ∃ c2, c2 = (c1.toList.take (i * 3) ++ curh.toList.take 3 ++ c1.toList.drop (i * 3 + (curh.toList.take 3).length)).toArray := ⟨_, rfl⟩
  have hyl : (curh.toList.take 3).length = 3 := by simp; omega
  have hcp2 : ∀ ty dc, (Builtin.copy_ #[23, 23] ty #[.slice (some ⟨g, i * 3, none⟩) (n + 1 - i) dc, .slice (some ⟨h, 0, none⟩) 1 caph]).run Tryz.prog W1 = .ok (goInt (Nat.min 1 (n + 1 - i))) (W1.setRow g c2) := fun ty dc => by
    rw [hc2]
    exact run_copy_k W1 23 23 ty 33 3 g (i * 3) (n + 1 - i) dc ⟨h, 0, none⟩ 1 caph c1 33 (curh.toList.take 3) Tryz.underlying23 inf33 hg1 (by rw [hyl]; simp only [Nat.min_def]; split <;> omega) (by have := src_cells (o := 0) (m := 3) hh1 (by omega); simpa using this) (by rw [hyl]; omega) h1h
  have hpost : ∃ cur' : Array Value, (W1.setRow g c2).heap[g]? = some (.cells cur' 33 (0, 0)) ∧ cur'.size = cap * 3 ∧ cur'.toList.take ((n + 1) * 3) = (cur.toList.take (n * 3)).take (i * 3) ++ curh.toList.take 3 ++ (cur.toList.take (n * 3)).drop (i * 3) ∧ KeptBut [g] w (W1.setRow g c2) := by
    refine ⟨c2, setRow_heap W1 g c1 _ 33 _ hg1, ?_, ?_, ?_⟩
    · rw [hc2]; simp; omega
    · have q := ins_list (cur := cur.toList) (y := curh.toList.take 3) (tl := tl) (c1 := c1.toList) (c2 := c2.toList) (a := i * 3) (s := 3) (by simp; omega) hyl (by rw [hc1', show i * 3 + 3 = (i + 1) * 3 from by omega]) (by rw [hc2, hyl])
      rw [show (n + 1) * 3 = i * 3 + 3 + tl.length from by rw [htll]; omega, q, htl, show (n - i) * 3 = n * 3 - i * 3 from by omega, mid_eq, List.take_take, Nat.min_eq_left (by omega)]
    · rw [hW1]; exact ((KeptBut.refl _ w).drew.trans (KeptBut.setRow (by simp) _)).trans (KeptBut.setRow (by simp) _)
  have hw1 : IntKind.i64.wrap ((i : Int) + 1) = (i : Int) + 1 := by rw [IntKind.wrap_i64]; omega
  have hw2 : IntKind.i64.wrap ((n : Int) + 1) = (n : Int) + 1 := by rw [IntKind.wrap_i64]; omega
  have hb1 : ¬ ((cap : Int) < (n : Int) + 1) := by omega
  have hb2 : ¬ (cap = i + 1) := by omega
  have hb3 : (i : Int) ≤ (n : Int) := by omega
  have hb4 : ¬ (cap = i) := by omega
  have hb5 : (i : Int) ≤ (n : Int) + 1 := by omega
  have hb6 : (i : Int) + 1 ≤ (n : Int) + 1 := by omega
  have hb7 : (n : Int) + 1 ≤ (cap : Int) := by omega
  have hb8 : (0 : Int) ≤ (i : Int) + 1 := by omega
  have hb9 : (0 : Int) ≤ (n : Int) + 1 := by omega
  have ht1 : ((i : Int) + 1).toNat = i + 1 := by omega
  have ht2 : ((n : Int) + 1).toNat = n + 1 := by omega
  clear hc2 hW1 hc1' htl h1 h1h
  go_enter Tryz.func109, Tryz.ntmps109
  go_wp2_with (simp only [hov])
  go_region_law (refine step_copy_k rfl _ _ 23 23 rfl (.slice (some ⟨g, (i + 1) * 3, none⟩) (n + 1 - (i + 1)) (cap - (i + 1))) (.slice (some ⟨g, i * 3, none⟩) (n + 1 - i) (cap - i)) (by simp [Act.eval, Act.put]) (by simp [Act.eval, Act.put]) (hcp1 _ _ _) ?_)
  go_wp2_with (at_builtin; refine wpList_copy_k rfl _ _ 23 23 rfl _ _ rfl rfl (hcp2 _ _) ?_)
  go_ret
  exact ⟨rfl, hpost⟩
set_option maxHeartbeats 4000000 in
set_option maxRecDepth 1000000 in
theorem ins109_grow (w : World) (g n cap i h caph : Nat) (cur curh : Array Value) (hg : w.heap[g]? = some (.cells cur 33 (0, 0))) (hs : cur.size = cap * 3) (hcm : cap ≤ maxLen) (h1 : OneL (cur.toList.take (n * 3)))
    (hh : w.heap[h]? = some (.cells curh 33 (0, 0))) (hhs : curh.size = caph * 3) (hc1 : 1 ≤ caph) (h1h : OneL (curh.toList.take 3)) (hi : i < n) (hn : n ≤ cap) (hroom : cap < n + 1) (hbig : (n + 1) * 24 ≤ 140737488355328) :
    Calls Tryz.prog 109 #[.slice (some ⟨g, 0, none⟩) n cap, .int .i64 i, .slice (some ⟨h, 0, none⟩) 1 caph] w fun e w' => ∃ cap', e = .returned (.slice (some ⟨w.heap.size, 0, none⟩) (n + 1) cap') ∧ n + 1 ≤ cap' ∧ cap' ≤ maxLen ∧
      ∃ cur' : Array Value, w'.heap[w.heap.size]? = some (.cells cur' 33 (0, 0)) ∧ cur'.size = cap' * 3 ∧ cur'.toList.take ((n + 1) * 3) = (cur.toList.take (n * 3)).take (i * 3) ++ curh.toList.take 3 ++ (cur.toList.take (n * 3)).drop (i * 3) ∧ KeptBut [] w w' := by
  have hcmx : cap ≤ 9223372036854775807 := hcm
  have hz2 : ¬ ((i : Int) = (n : Int)) := by omega
  have hgw : g < w.heap.size := (Array.getElem?_eq_some_iff.1 hg).1
  have hhw : h < w.heap.size := (Array.getElem?_eq_some_iff.1 hh).1
  obtain ⟨i0, hi0, hz0, hzs, hzb⟩ := info_parts info33
  have hkk : (n : Int) + 1 - (i : Int) = ((n + 1 - i : Nat) : Int) := by omega
  have hik : i + (n + 1 - i) = n + 1 := by omega
  obtain ⟨olds, hol⟩ : ∃ olds, olds = cur.toList.take (i * 3) := ⟨_, rfl⟩
  have holl : olds.length = i * 3 := by rw [hol]; simp; omega
  have hold : (Builtin.firstCells i0.size i (.slice (some ⟨g, 0, none⟩) i cap)).run Tryz.prog w.drew = .ok olds.toArray w.drew := by
    rw [hzs]
    refine run_firstCells_some w.drew 3 i ⟨g, 0, none⟩ i cap olds holl fun j v hj => ?_
    have := src_cells (o := 0) (m := i * 3) (w := w.drew) hg (by omega) j v (by rw [List.drop_zero, ← hol]; exact hj)
    exact this
  obtain ⟨G, hG⟩ : ∃ G, G = grownCap w (n + 1) cap 33 := ⟨_, rfl⟩
  obtain ⟨ROW, hROW⟩ : ∃ ROW : Array Value, ROW = olds.toArray ++ Builtin.zeroCells (Value.agg #[.int .i64 0, .int .i64 0, .int .i64 0]).cells (n + 1 - i) ++ Builtin.zeroCells (Value.agg #[.int .i64 0, .int .i64 0, .int .i64 0]).cells (G - (n + 1)) := ⟨_, rfl⟩
  have hrz : ∀ ty, (Builtin.append_ #[23, 3] ty #[.slice (some ⟨g, 0, none⟩) i cap, .int .i64 ((n : Int) + 1 - (i : Int))]).run Tryz.prog w =
      .ok (.slice (some ⟨w.heap.size, 0, none⟩) (n + 1) G) (w.drew.alloc (.cells ROW 33)) := fun ty => by
    have h := Lib.run_append_grow_zeros w 23 3 ty 33 i0 _ .i64 .i64 Tryz.underlying23 Tryz.underlying3 hi0 hz0 (some ⟨g, 0, none⟩) i cap olds hold (n + 1 - i) (by omega) (by omega) (by omega) (by omega) (by rw [hzb]; omega) (by rw [hzb, hik]; exact growslice_fits hroom hbig)
    rw [hik, ← hG, ← hROW] at h
    rw [hkk]
    exact h
  have hGn : n + 1 ≤ G := by rw [hG]; exact grownCap_ge w _ _ _
  have hGm : G ≤ maxLen := by rw [hG]; exact grownCap_le_maxLen w (n + 1) cap 33 (by unfold maxLen; omega)
  have hG63 : G ≤ 9223372036854775807 := hGm
  have hRs : ROW.size = G * 3 := by
    rw [hROW]; simp only [Array.size_append, List.size_toArray, size_zeroCells, holl]
    rw [show (Value.agg #[.int .i64 0, .int .i64 0, .int .i64 0]).cells.size = 3 from rfl]; omega
  obtain ⟨W1, hW1⟩ : ∃ W1, W1 = w.drew.alloc (.cells ROW 33) := ⟨_, rfl⟩
  rw [← hW1] at hrz
  have hN1 : W1.heap[w.heap.size]? = some (.cells ROW 33 (0, 0)) := by rw [hW1]; exact heap_alloc_new w.drew _
  have hk1 : KeptBut [] w W1 := by rw [hW1]; exact (KeptBut.refl _ w).drew.alloc _
  have hyl : (curh.toList.take 3).length = 3 := by simp; omega
  obtain ⟨c2, hc2⟩ : ∃ c2, c2 = (ROW.toList.take (i * 3) ++ curh.toList.take 3 ++ ROW.toList.drop (i * 3 + (curh.toList.take 3).length)).toArray := ⟨_, rfl⟩
  have hc2s : c2.size = G * 3 := by rw [hc2]; simp; omega
  have hcpA : ∀ (W : World), W.heap = W1.heap → ∀ ty dc, (Builtin.copy_ #[23, 23] ty #[.slice (some ⟨w.heap.size, i * 3, none⟩) (n + 1 - i) dc, .slice (some ⟨h, 0, none⟩) 1 caph]).run Tryz.prog W = .ok (goInt (Nat.min 1 (n + 1 - i))) (W.setRow w.heap.size c2) := fun W hW ty dc => by
    rw [hc2]
    exact run_copy_k W 23 23 ty 33 3 w.heap.size (i * 3) (n + 1 - i) dc ⟨h, 0, none⟩ 1 caph ROW 33 (curh.toList.take 3) Tryz.underlying23 inf33 (by rw [hW]; exact hN1) (by rw [hyl]; simp only [Nat.min_def]; split <;> omega)
      (by have := src_cells (w := W) (o := 0) (m := 3) (cur := curh) (T := 33) (g := h) (by rw [hW, hk1.block h hhw (by simp)]; exact hh) (by omega); simpa using this) (by rw [hyl]; omega) h1h
  obtain ⟨tl, htl⟩ : ∃ tl, tl = (cur.toList.drop (i * 3)).take ((n - i) * 3) := ⟨_, rfl⟩
  have htll : tl.length = (n - i) * 3 := by rw [htl]; simp; omega
  have htl1 : ∀ v ∈ tl, v.oneCell' = true := fun v hv => h1 v (by
    rw [htl, show (cur.toList.drop (i * 3)).take ((n - i) * 3) = (cur.toList.take (n * 3)).drop (i * 3) from by rw [List.drop_take]; congr 1; omega] at hv
    exact List.mem_of_mem_drop hv)
  obtain ⟨W2, hW2⟩ : ∃ W2, W2 = W1.setRow w.heap.size c2 := ⟨_, rfl⟩
  have hN2 : W2.heap[w.heap.size]? = some (.cells c2 33 (0, 0)) := by rw [hW2]; exact setRow_heap _ _ ROW _ 33 _ hN1
  have hk2 : KeptBut [w.heap.size] w W2 := by rw [hW2]; exact (hk1.mono (by simp)).trans (KeptBut.setRow (by simp) _)
  obtain ⟨c3, hc3⟩ : ∃ c3, c3 = (c2.toList.take ((i + 1) * 3) ++ tl ++ c2.toList.drop ((i + 1) * 3 + tl.length)).toArray := ⟨_, rfl⟩
  have hcpB : ∀ (W : World), W.heap = W2.heap → ∀ ty dc sc, (Builtin.copy_ #[23, 23] ty #[.slice (some ⟨w.heap.size, (i + 1) * 3, none⟩) (n + 1 - (i + 1)) dc, .slice (some ⟨g, i * 3, none⟩) (n - i) sc]).run Tryz.prog W = .ok (goInt (Nat.min (n - i) (n + 1 - (i + 1)))) (W.setRow w.heap.size c3) := fun W hW ty dc sc => by
    rw [hc3]
    exact run_copy_k W 23 23 ty 33 3 w.heap.size ((i + 1) * 3) (n + 1 - (i + 1)) dc ⟨g, i * 3, none⟩ (n - i) sc c2 33 tl Tryz.underlying23 inf33 (by rw [hW]; exact hN2) (by rw [htll]; simp only [Nat.min_def]; split <;> omega)
      (by rw [htl]; exact src_cells (w := W) (T := 33) (by rw [hW, hk2.block g hgw (by simp; omega)]; exact hg) (by omega)) (by rw [htll]; omega) htl1
  have hpost : ∀ W, W.heap = W2.heap → KeptBut [w.heap.size] w W → ∃ cur' : Array Value, (W.setRow w.heap.size c3).heap[w.heap.size]? = some (.cells cur' 33 (0, 0)) ∧ cur'.size = G * 3 ∧ cur'.toList.take ((n + 1) * 3) = (cur.toList.take (n * 3)).take (i * 3) ++ curh.toList.take 3 ++ (cur.toList.take (n * 3)).drop (i * 3) ∧ KeptBut [] w (W.setRow w.heap.size c3) := by
    intro W hW hk
    refine ⟨c3, setRow_heap W _ c2 _ 33 _ (by rw [hW]; exact hN2), ?_, ?_, (hk.trans (KeptBut.setRow (by simp) _)).fresh (by simp)⟩
    · rw [hc3]; simp; omega
    · have q := ins_list2 (row := ROW.toList) (y := curh.toList.take 3) (tl := tl) (c2 := c2.toList) (c3 := c3.toList) (a := i * 3) (s := 3) (by simp; omega) hyl (by rw [hc2, hyl]) (by rw [hc3, show i * 3 + 3 = (i + 1) * 3 from by omega])
      rw [show (n + 1) * 3 = i * 3 + 3 + tl.length from by rw [htll]; omega, q, htl, show (n - i) * 3 = n * 3 - i * 3 from by omega, mid_eq, List.take_take, Nat.min_eq_left (by omega), hROW]
      congr 2
      simp only [Array.toList_append, List.append_assoc]
      exact (List.take_left' holl).trans hol
  have hw1 : IntKind.i64.wrap ((i : Int) + 1) = (i : Int) + 1 := by rw [IntKind.wrap_i64]; omega
  have hw2 : IntKind.i64.wrap ((n : Int) + 1) = (n : Int) + 1 := by rw [IntKind.wrap_i64]; omega
  have hw3 : IntKind.i64.wrap ((n : Int) + 1 - (i : Int)) = (n : Int) + 1 - (i : Int) := by rw [IntKind.wrap_i64]; omega
  have hz3 : (cap : Int) < (n : Int) + 1 := by omega
  have hGi : ¬ (G = i) := by omega
  have hGi1 : ¬ (G = i + 1) := by omega
  have hci : ¬ (cap = i) := by omega
  have hb3 : (i : Int) ≤ (n : Int) := by omega
  have hb5 : (i : Int) ≤ (n : Int) + 1 := by omega
  have hb6 : (i : Int) + 1 ≤ (n : Int) + 1 := by omega
  have hb8 : (0 : Int) ≤ (i : Int) + 1 := by omega
  have ht1 : ((i : Int) + 1).toNat = i + 1 := by omega
  have hb9 : i ≤ cap := by omega
  have hb10 : (i : Int) ≤ (cap : Int) := by omega
  clear hkk hik hold hROW hG hc2 hc3 htl hol h1 h1h
  go_enter Tryz.func109, Tryz.ntmps109
  go_wp2_with (first
    | (at_builtin; refine Lib.wpList_append_run _ rfl _ _ _ _ rfl _ _ rfl rfl _ _ (hrz _) ?_)
    | (at_builtin; refine wpList_copy_k rfl _ _ 23 23 rfl _ _ rfl rfl (hcpA _ rfl _ _) ?_))
  go_region_law (refine step_copy_k rfl _ _ 23 23 rfl (.slice (some ⟨w.heap.size, (i + 1) * 3, none⟩) (n + 1 - (i + 1)) (G - (i + 1))) (.slice (some ⟨g, i * 3, none⟩) (n - i) (cap - i)) (by simp [Act.eval, Act.put]) (by simp [Act.eval, Act.put]) (hcpB _ (by rw [hW2, hW1]; rfl) _ _ _) ?_)
  go_wp2
  go_ret
  exact ⟨G, rfl, hGn, hGm, hpost _ (by rw [hW2, hW1]; rfl) (by rw [hW2, hW1] at hk2; exact ⟨hk2.os, hk2.tape, hk2.output, hk2.size, hk2.block⟩)⟩
set_option maxHeartbeats 4000000 in
set_option maxRecDepth 1000000 in
theorem insEnd109 : InsEnd Tryz.prog 109 33 3 24 := by
  intro w v v2 n xs ys hr hr2 h1 hbig h63
  rcases hr2.2 with ⟨a, rfl, h0⟩ | ⟨h, caph, curh, rfl, hch, hh, hn2, hm2, hs2, hx2⟩
  · omega
  obtain ⟨a, cap, rfl, hnc, hcm⟩ := hr.slice
  have hhw : h < w.heap.size := (Array.getElem?_eq_some_iff.1 hh).1
  have hyl : ys.length = 1 * 3 := hr2.1
  obtain ⟨v', w', hrun, k1, k2, k3⟩ := append_run (P := Tryz.prog) (tab := tab) (w := w) (t := 23) (t2 := 23) (e := 33) (ot := 23) Tryz.underlying23 (base.tab 33 _ rfl) (.inl ⟨33, Tryz.underlying23⟩) (n := n) hr (Nat.le_refl n) (xv := .slice (some ⟨h, 0, none⟩) 1 caph) (news := ys) (m := 1) hyl h1
    (fun w' => by simp [Builtin.lenOf]) (fun w' hw' => run_firstCells_some w' 3 1 ⟨h, 0, none⟩ 1 caph ys hyl fun j v hj => by
      have := src_cells (o := 0) (m := 1 * 3) (w := w') (by rw [hw' h hhw]; exact hh) (by omega) j v (by rw [List.drop_zero, hx2]; exact hj)
      exact this) h63 hbig
  have hxl : xs.take (n * 3) = xs := List.take_of_length_le (by rw [hr.1]; exact Nat.le_refl _)
  have k1' : RowIs w' 33 3 (n + 1) v' (xs ++ ys) := by
    have k1 : RowIs w' 33 3 (n + 1) v' (xs.take (n * 3) ++ ys) := k1
    rw [hxl] at k1; exact k1
  clear k1
  cases a with
  | none =>
    go_enter Tryz.func109, Tryz.ntmps109
    go_wp2_with (at_builtin; refine Lib.wpList_append_run _ rfl _ _ _ _ rfl _ _ rfl rfl _ _ hrun ?_)
    all_goals (go_ret; first | exact ⟨v', rfl, k1', k2, k3⟩ | (subst_vars; exact ⟨v', rfl, k1', k2, k3⟩))
  | some a =>
    obtain ⟨ab, ao, asp⟩ := a
    go_enter Tryz.func109, Tryz.ntmps109
    go_wp2_with (at_builtin; refine Lib.wpList_append_run _ rfl _ _ _ _ rfl _ _ rfl rfl _ _ hrun ?_)
    all_goals (go_ret; first | exact ⟨v', rfl, k1', k2, k3⟩ | (subst_vars; exact ⟨v', rfl, k1', k2, k3⟩))
theorem ins109 : InsOk Tryz.prog 109 33 3 24 := ins_ok
  (fun w g n cap i h caph cur curh h1 h2 h3 h4 h5 h6 h7 h8 h9 h10 h11 => ins109_room w g n cap i h caph cur curh h1 h2 h3 h4 h5 h6 h7 h8 h9 h10 h11)
  (fun w g n cap i h caph cur curh h1 h2 h3 h4 h5 h6 h7 h8 h9 h10 h11 h12 => ins109_grow w g n cap i h caph cur curh h1 h2 h3 h4 h5 h6 h7 h8 h9 h10 h11 h12)
  insEnd109
theorem inf231 : (Tryz.prog.info? 231).map (·.size) = some 21 := by kernel_rfl
theorem sz231 : ∀ w, (Go.sizeOf 231).run Tryz.prog w = .ok 21 w := fun w => by kernel_rfl
theorem zv231 : ∀ w, (zeroValue 231).run Tryz.prog w = .ok (Value.agg #[.int .i64 0, .int .i64 0, .int .i64 0, .int .i64 0, .int .i64 0, .int .i64 0, .int .i64 0, .slice none 0 0, .int .i64 0, .bool false, .int .i64 0, .int .i64 0, .int .i64 0, .int .i64 0, .slice none 0 0, .slice none 0 0, .int .i64 0, .int .i64 0, .int .i64 0, .int .i64 0, .int .i64 0]) w := fun w => by kernel_rfl
theorem info231 : (Tryz.prog.info? 231).map (fun i => (i.zero, i.size, i.bytes)) = some (some (Value.agg #[.int .i64 0, .int .i64 0, .int .i64 0, .int .i64 0, .int .i64 0, .int .i64 0, .int .i64 0, .slice none 0 0, .int .i64 0, .bool false, .int .i64 0, .int .i64 0, .int .i64 0, .int .i64 0, .slice none 0 0, .slice none 0 0, .int .i64 0, .int .i64 0, .int .i64 0, .int .i64 0, .int .i64 0]), 21, 216) := by kernel_rfl
set_option maxHeartbeats 4000000 in
set_option maxRecDepth 1000000 in
theorem delSame191 : DelSame Tryz.prog 191 := by
  intro a n cap i w hin hn hcm
  go_enter Tryz.func191, Tryz.ntmps191
  go_wp2
  all_goals (go_ret; exact ⟨rfl, .refl _ _⟩)
set_option maxHeartbeats 4000000 in
set_option maxRecDepth 1000000 in
theorem del191 : DelOk Tryz.prog 191 231 21 := by
  intro g n cap i j cur w hg hs hn hcm h1 hij hj
  have hne : ¬ ((i : Int) = (j : Int)) := by omega
  have hb1 : (i : Int) ≤ (j : Int) := by omega
  have hb2 : (j : Int) ≤ (n : Int) := by omega
  have hb3 : (i : Int) ≤ (n : Int) := by omega
  have hb4 : i ≤ cap := by omega
  have hb5 : j ≤ cap := by omega
  obtain ⟨news, hnews⟩ : ∃ news, news = (cur.toList.drop (j * 21)).take ((n - j) * 21) := ⟨_, rfl⟩
  have hnl : news.length = (n - j) * 21 := by rw [hnews]; simp; omega
  have hsrc : ∀ k v, news[k]? = some v → w.cell? ((⟨g, j * 21, none⟩ : Addr).add k) = some v := by
    rw [hnews]; exact src_cells hg (by omega)
  have hone : ∀ v ∈ news, v.oneCell' = true := fun v hv => h1 v (by
    rw [hnews] at hv
    have : (cur.toList.drop (j * 21)).take ((n - j) * 21) = (cur.toList.take (n * 21)).drop (j * 21) := by
      rw [List.drop_take]; congr 1; omega
    rw [this] at hv
    exact List.mem_of_mem_drop hv)
  obtain ⟨c1, hc1⟩ : ∃ c1, c1 = (cur.toList.take (i * 21) ++ news ++ cur.toList.drop (i * 21 + news.length)).toArray := ⟨_, rfl⟩
  have hap : ∀ (W : World) (a : Addr) (m sc : Nat) (ty : TypeId), W.heap[g]? = w.heap[g]? → m = n - j → (m = 0 ∨ a = ⟨g, j * 21, none⟩) →
      (Builtin.append_ #[158, 158] ty #[.slice (some ⟨g, 0, none⟩) i cap, .slice (some a) m sc]).run Tryz.prog W = .ok (.slice (some ⟨g, 0, none⟩) (i + m) cap) (W.setRow g c1) := by
    intro W a m sc ty hW hm ha
    rw [hm] at ha ⊢
    have hst := run_storeCells_at Tryz.prog g (i * 21) 231 news 0 cur W (hW.trans hg) (by rw [hnl]; omega) hone
    simp only [Nat.add_zero] at hst
    rw [← hc1] at hst
    have hfc : (Builtin.firstCells 21 (n - j) (.slice (some a) (n - j) sc)).run Tryz.prog W = .ok news.toArray W := by
      refine run_firstCells_some (P := Tryz.prog) W 21 (n - j) a (n - j) sc news hnl fun k v hk => ?_
      rcases ha with h | rfl
      · have := (List.getElem?_eq_some_iff.1 hk).1
        rw [hnl] at this; omega
      · have := hsrc k v hk
        rw [← this]
        simp [World.cell?, hW, Addr.add_none]
    have hr : i + (n - j) ≤ cap := by omega
    cases hq : Tryz.prog.info? 231 with
    | none => have := inf231; rw [hq] at this; simp at this
    | some i0 =>
      have hi : i0.size = 21 := by have := inf231; rw [hq] at this; simpa using this
      simp [Builtin.append_, run_underlying Tryz.underlying158, sizeOf, typeInfo, hq, hi, Builtin.lenOf, hr, hfc, Addr.add_none, hst]
  have hc1s : c1.size = cap * 21 := by rw [hc1]; simp; omega
  have hc1t : c1.toList.take ((i + (n - j)) * 21) = (cur.toList.take (n * 21)).take (i * 21) ++ (cur.toList.take (n * 21)).drop (j * 21) := by
    rw [hc1]
    simp only [List.append_assoc]
    rw [← List.append_assoc, show (i + (n - j)) * 21 = (cur.toList.take (i * 21) ++ news).length from by simp [hnl]; omega, List.take_left, hnews, List.take_take, Nat.min_eq_left (by omega), List.drop_take]
    congr 2
    omega
  have hsub : n - (j - i) = i + (n - j) := by omega
  have hz : (Value.agg #[.int .i64 0, .int .i64 0, .int .i64 0, .int .i64 0, .int .i64 0, .int .i64 0, .int .i64 0, .slice none 0 0, .int .i64 0, .bool false, .int .i64 0, .int .i64 0, .int .i64 0, .int .i64 0, .slice none 0 0, .slice none 0 0, .int .i64 0, .int .i64 0, .int .i64 0, .int .i64 0, .int .i64 0]).cells.size = 21 := rfl
  have hz1 : ∀ v ∈ (Value.agg #[.int .i64 0, .int .i64 0, .int .i64 0, .int .i64 0, .int .i64 0, .int .i64 0, .int .i64 0, .slice none 0 0, .int .i64 0, .bool false, .int .i64 0, .int .i64 0, .int .i64 0, .int .i64 0, .slice none 0 0, .slice none 0 0, .int .i64 0, .int .i64 0, .int .i64 0, .int .i64 0, .int .i64 0]).cells, v.oneCell' = true := by decide
  rw [hsub]
  have hcn : ¬ (cap = i + (n - j)) := by omega
  have hlt : ((i + (n - j) : Nat) : Int) ≤ (n : Int) := by omega
  have hfin : ∀ (W1 : World) (d : Array Value), W1.heap[g]? = some (.cells d 231 (0, 0)) → d.size = cap * 21 → d.toList.take ((i + (n - j)) * 21) = (cur.toList.take (n * 21)).take (i * 21) ++ (cur.toList.take (n * 21)).drop (j * 21) → KeptBut [g] w W1 →
      ∃ W2, (∀ sc, (Builtin.clear_ #[158] 0 #[.slice (some ⟨g, (i + (n - j)) * 21, none⟩) (n - (i + (n - j))) sc]).run Tryz.prog W1 = .ok (.tuple #[]) W2) ∧
        ∃ cur' : Array Value, W2.heap[g]? = some (.cells cur' 231 (0, 0)) ∧ cur'.size = cap * 21 ∧ cur'.toList.take ((i + (n - j)) * 21) = (cur.toList.take (n * 21)).take (i * 21) ++ (cur.toList.take (n * 21)).drop (j * 21) ∧ KeptBut [g] w W2 := by
    intro W1 d e1 e2 e3 e4
    obtain ⟨tl, t1, t2⟩ := run_clear_k (P := Tryz.prog) W1 158 231 0 _ 21 Tryz.underlying158 zv231 hz hz1 (by omega) g ((i + (n - j)) * 21) (n - (i + (n - j))) (by omega) d 231 e1 (by omega)
    refine ⟨W1.setRow g (d.toList.take ((i + (n - j)) * 21) ++ tl ++ d.toList.drop ((i + (n - j)) * 21 + tl.length)).toArray, t2, (d.toList.take ((i + (n - j)) * 21) ++ tl ++ d.toList.drop ((i + (n - j)) * 21 + tl.length)).toArray, setRow_heap W1 g d _ 231 _ e1, ?_, ?_, e4.trans (KeptBut.setRow (by simp) _)⟩
    · simp; omega
    · rw [← e3, List.append_assoc]
      simp only
      rw [show (i + (n - j)) * 21 = (d.toList.take ((i + (n - j)) * 21)).length from by simp; omega]
      simp
  clear hc1 hnews hz hz1 hnl hsrc hone h1
  by_cases hjn : j = n
  · have hk : cur.toList.take ((i + (n - j)) * 21) = (cur.toList.take (n * 21)).take (i * 21) ++ (cur.toList.take (n * 21)).drop (j * 21) := by
      subst hjn
      rw [Nat.sub_self, Nat.add_zero, List.take_take, Nat.min_eq_left (by omega), List.drop_of_length_le (by simp; omega), List.append_nil]
    obtain ⟨W2, hcl, hpost⟩ := hfin w.drew cur hg hs hk (KeptBut.refl _ w).drew
    have e0 : i + (n - j) = i := by omega
    rw [e0] at hcl hpost hcn ⊢
    clear hfin hc1t hap hk hsub hlt e0
    subst hjn
    by_cases hcj : cap = j
    · subst hcj
      go_enter Tryz.func191, Tryz.ntmps191
      go_wp2
      go_region
      go_wp2_with (at_builtin; refine wpList_clear_k rfl _ 158 rfl _ rfl (hcl _) ?_)
      go_ret
      exact ⟨rfl, hpost⟩
    · go_enter Tryz.func191, Tryz.ntmps191
      go_wp2
      go_region
      go_wp2_with (at_builtin; refine wpList_clear_k rfl _ 158 rfl _ rfl (hcl _) ?_)
      go_ret
      exact ⟨rfl, hpost⟩
  · have hcj : ¬ (cap = j) := by omega
    obtain ⟨W2, hcl, hpost⟩ := hfin (w.drew.setRow g c1) c1 (setRow_heap _ g cur _ 231 _ hg) hc1s hc1t ((KeptBut.refl _ w).drew.trans (KeptBut.setRow (by simp) _))
    clear hfin hc1t
    go_enter Tryz.func191, Tryz.ntmps191
    go_wp2
    go_region_law (refine step_append_k rfl _ _ 158 158 rfl _ _ (by simp [Act.eval, Act.put]) (by simp [Act.eval, Act.put]) (hap w.drew ⟨g, j * 21, none⟩ (n - j) (cap - j) 158 rfl rfl (Or.inr rfl)) ?_)
    go_wp2_with (at_builtin; refine wpList_clear_k rfl _ 158 rfl _ rfl (hcl _) ?_)
    go_ret
    exact ⟨rfl, hpost⟩
theorem inf5 : (Tryz.prog.info? 5).map (·.size) = some 1 := by kernel_rfl
theorem sz5 : ∀ w, (Go.sizeOf 5).run Tryz.prog w = .ok 1 w := fun w => by kernel_rfl
theorem zv5 : ∀ w, (zeroValue 5).run Tryz.prog w = .ok (Value.int .u8 0) w := fun w => by kernel_rfl
theorem info5 : (Tryz.prog.info? 5).map (fun i => (i.zero, i.size, i.bytes)) = some (some (Value.int .u8 0), 1, 1) := by kernel_rfl
set_option maxHeartbeats 4000000 in
set_option maxRecDepth 1000000 in
theorem cmp206 : CmpOk Tryz.prog 206 := by
  intro v1 v2 c w h
  have hcall : (callFunc 215 #[v1, v2]).run Tryz.prog w = .ok (.value (.int .i64 c)) w := by
    rw [run_callFunc_extern Tryz.func215 (by kernel_rfl) (by kernel_rfl) (by kernel_rfl) (e := Extern.BytealgCompare.compare) (by kernel_rfl), h]
    rfl
  clear h
  go_enter Tryz.func206, Tryz.ntmps206
  go_wp2_with (simp only [hcall])
  all_goals (go_ret; exact ⟨rfl, .refl _ _⟩)
def ilA : List Nat := [75, 96, 97, 98, 116, 117, 118, 119, 136, 137, 138, 140, 141, 142, 143, 144, 161, 162, 163, 173, 174, 175, 176, 177, 181, 189, 190, 192, 193, 201, 202, 203, 213, 214, 216, 217, 218, 222]
def flA : List Nat := [12, 46, 47, 48, 49, 50, 60, 61, 62, 74, 78, 80, 82, 83, 84, 95, 99, 100, 106, 107, 108, 113, 114, 115, 120, 122, 132, 133, 134, 135, 139, 145, 146, 147, 148, 149, 152, 158, 159, 160, 164, 170, 171, 172, 178, 179, 180, 194, 195, 200, 204, 205, 207, 208, 211, 212, 219, 221, 223, 224, 225, 226, 227, 228, 230, 231, 232, 233]
def clA : List Nat := [114, 115, 145, 146, 147, 148, 149]
def cnA : Nat → Clear := fun f => bif Nat.beq f 49 then fun k => bif Nat.beq k 11 then some [3, 8, 11, 44, 45, 46] else none else fun _ => none
end Go.Eng.R
