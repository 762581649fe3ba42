/- An own evaluator of the program's form, proved sound, and what it says of this law's functions: part 3. -/
import Derived.Test.YtoiikojihaddaaaGreatE2
import Derived.ChangeSame
import Derived.ChangeStays
import Derived.Deep.RegionLaw
import Derived.Handed
import Derived.Laws.Externs
import Derived.Laws.IdiomCopy
import Derived.Laws.NewBlocks
import Derived.Lib.AppendZeros
import Derived.Lib.AppendZerosOnto
import Derived.Lib.Bytealg
import Derived.Lib.BytesEntry
import Derived.Lib.Overlaps
import Derived.ReadAgain
import Derived.Test.YtoiikojihaddaaaGreatProg
set_option linter.unusedVariables false
namespace Go.Eng
open Go.ChangeShapes Go.WideShapes
inductive Wt (tab : Tab) : Ck → V → Prop where
  | int (k : IntKind) (n : Int) : (Lit.int k n).wf = true → Wt tab (.int k) (.int k n)
  | bool (b : Bool) : Wt tab .bool (.bool b)
  | str (s : ByteArray) : s.size ≤ 9223372036854775807 → Wt tab .str (.str (Zat s))
  | sl (T : TypeId) (ty : Ty) (l : List V) : tab T = some ty → l.length ≤ 9223372036854775807 → (∀ i, i < l.length → ZbB ty (l.getD i .dead)) →
      (∀ i j, i < l.length → j < ty.kinds.length → Wt tab (ty.kinds.getD j .other) ((l.getD i .dead).cell j)) → Wt tab (.sl T) (.inl T l)
def WtT (tab : Tab) (T : TypeId) (x : V) : Prop := ∃ ty, tab T = some ty ∧ ZbB ty x ∧ ∀ j, j < ty.kinds.length → Wt tab (ty.kinds.getD j .other) (x.cell j)
theorem Wt.kindOk {tab : Tab} {k : Ck} {x : V} (h : Wt tab k x) : kindOk k x := by
  cases h <;> simp [Eng.kindOk]
def kindsOf (tab : Tab) (T : TypeId) : List Ck := match tab T with
  | some ty => ty.kinds
  | none => []
def fieldsB (P : Program) (tab : Tab) (R : List TypeId) : Nat → List Field → Bool
  | _, [] => true
  | o, f :: r => R.contains f.type && (decide (f.offset = o) && (decide (P.cellsOf f.type = (kindsOf tab f.type).length) && fieldsB P tab R (o + (kindsOf tab f.type).length) r))
def readB1 (P : Program) (tab : Tab) (R : List TypeId) (t : TypeId) : Bool :=
  match tab t with
  | none => false
  | some ty => decide (P.cellsOf t = ty.kinds.length) && match P.underlying t with
    | some (.int k) => !ty.agg && decide (ty.kinds = [.int k])
    | some .bool => !ty.agg && decide (ty.kinds = [.bool])
    | some .string => !ty.agg && decide (ty.kinds = [.str])
    | some (.slice e) => !ty.agg && (decide (ty.kinds = [.sl e]) && R.contains e)
    | some (.struct fs) => ty.agg && (fieldsB P tab R 0 fs.toList && decide (ty.kinds = fs.toList.flatMap fun f => kindsOf tab f.type))
    | _ => false
def readB (P : Program) (tab : Tab) (R : List TypeId) : Bool := R.all (readB1 P tab R)
section
variable {H : Type} {enc : TypeId × Value → H} {P : Program} {tab : Tab} {w : World} {sp : Nat → Bool} {held : Bool}
def CellsIs (tab : Tab) (w : World) (ks : List Ck) (cs : List Value) (ys : List V) : Prop :=
  ys.length = ks.length ∧ cs.length = ks.length ∧ (∀ j, j < ks.length → Rp tab w (· < w.heap.size) (ys.getD j .dead) (cs.getD j undef)) ∧ ∀ j, j < ks.length → Wt tab (ks.getD j .other) (ys.getD j .dead)
theorem CellsIs.one {k : Ck} {v : Value} {y : V} (h1 : Rp tab w (· < w.heap.size) y v) (h2 : Wt tab k y) : CellsIs tab w [k] [v] [y] := by
  refine ⟨rfl, rfl, fun j hj => ?_, fun j hj => ?_⟩ <;>
  · have : j = 0 := by simpa using hj
    subst this
    assumption
theorem CellsIs.append {k1 k2 : List Ck} {c1 c2 : List Value} {y1 y2 : List V} (h1 : CellsIs tab w k1 c1 y1) (h2 : CellsIs tab w k2 c2 y2) : CellsIs tab w (k1 ++ k2) (c1 ++ c2) (y1 ++ y2) := by
  obtain ⟨a1, a2, a3, a4⟩ := h1
  obtain ⟨b1, b2, b3, b4⟩ := h2
  refine ⟨by simp [a1, b1], by simp [a2, b2], fun j hj => ?_, fun j hj => ?_⟩
  · simp only [List.length_append] at hj
    by_cases h : j < k1.length
    · have e1 : (y1 ++ y2).getD j .dead = y1.getD j .dead := by simp [List.getD, List.getElem?_append_left (show j < y1.length by omega)]
      have e2 : (c1 ++ c2).getD j undef = c1.getD j undef := by simp [List.getD, List.getElem?_append_left (show j < c1.length by omega)]
      rw [e1, e2]; exact a3 j h
    · have e1 : (y1 ++ y2).getD j .dead = y2.getD (j - k1.length) .dead := by simp [List.getD, List.getElem?_append_right (show y1.length ≤ j by omega), a1]
      have e2 : (c1 ++ c2).getD j undef = c2.getD (j - k1.length) undef := by simp [List.getD, List.getElem?_append_right (show c1.length ≤ j by omega), a2]
      rw [e1, e2]; exact b3 _ (by omega)
  · simp only [List.length_append] at hj
    by_cases h : j < k1.length
    · have e1 : (y1 ++ y2).getD j .dead = y1.getD j .dead := by simp [List.getD, List.getElem?_append_left (show j < y1.length by omega)]
      have e2 : (k1 ++ k2).getD j .other = k1.getD j .other := by simp [List.getD, List.getElem?_append_left (show j < k1.length by omega)]
      rw [e1, e2]; exact a4 j h
    · have e1 : (y1 ++ y2).getD j .dead = y2.getD (j - k1.length) .dead := by simp [List.getD, List.getElem?_append_right (show y1.length ≤ j by omega), a1]
      have e2 : (k1 ++ k2).getD j .other = k2.getD (j - k1.length) .other := by simp [List.getD, List.getElem?_append_right (show k1.length ≤ j by omega)]
      rw [e1, e2]; exact b4 _ (by omega)
theorem CellsIs.shape {T : TypeId} {ty : Ty} (hty : TyOk P tab T ty) {cs : List Value} {ys : List V} (h : CellsIs tab w ty.kinds cs ys) : ZbB ty (Eng.mk ty.agg ys) ∧ (Eng.mk ty.agg ys).cells = ys :=
  shape_mk hty h.1 fun j hj => (h.2.2.2 j hj).kindOk
theorem fields_read {R : List TypeId} {n : Nat} (ih : ∀ t ∈ R, ∀ cs x, DataW.trod enc P w 0 sp held n t cs = some x → ∃ ty ys, tab t = some ty ∧ CellsIs tab w ty.kinds cs ys) (cs : List Value) :
    ∀ (fs : List Field) (o : Nat) (xs : List (DataW H × List MemPlace)), fieldsB P tab R o fs = true →
      (fs.mapM fun f => DataW.trod enc P w 0 sp held n f.type ((cs.drop f.offset).take (P.cellsOf f.type))) = some xs →
      ∃ ys, CellsIs tab w (fs.flatMap fun f => kindsOf tab f.type) ((cs.drop o).take ((fs.flatMap fun f => kindsOf tab f.type).length)) ys
  | [], o, xs, _, _ => ⟨[], rfl, by simp, fun j hj => by simp at hj, fun j hj => by simp at hj⟩
  | f :: fs, o, xs, hB, hx => by
    simp only [fieldsB, Bool.and_eq_true, decide_eq_true_eq, List.contains_iff_mem] at hB
    obtain ⟨h1, h2, h3, h4⟩ := hB
    rw [List.mapM_cons] at hx
    obtain ⟨x, hx1, hx2⟩ := Option.bind_eq_some_iff.1 hx
    obtain ⟨xr, hx3, hx4⟩ := Option.bind_eq_some_iff.1 hx2
    obtain ⟨ty, ys1, e1, c1⟩ := ih _ h1 _ _ hx1
    obtain ⟨ys2, c2⟩ := fields_read ih cs fs _ _ h4 hx3
    have ek : kindsOf tab f.type = ty.kinds := by simp [kindsOf, e1]
    refine ⟨ys1 ++ ys2, ?_⟩
    rw [h2, h3, ek] at c1
    rw [ek] at c2
    have := c1.append c2
    rw [List.flatMap_cons, ek]
    refine cast ?_ this
    congr 1
    rw [List.length_append]
    rw [← List.drop_drop, List.take_add]
theorem add_zero' (a : Addr) : a.add 0 = a := by simp [Addr.add]
theorem add_plain {a : Addr} (h : a.spot = none) (n : Nat) : a.add n = ⟨a.block, a.off + n, none⟩ := by
  cases a
  simp only at h
  subst h
  unfold Addr.add
  split
  · simp_all
  · rfl
theorem cells_read (hT : ZC P tab) {R : List TypeId} (hR : readB P tab R = true) : ∀ (n : Nat), ∀ t ∈ R, ∀ (cs : List Value) (x : DataW H × List MemPlace), DataW.trod enc P w 0 sp held n t cs = some x →
    ∃ ty ys, tab t = some ty ∧ CellsIs tab w ty.kinds cs ys
  | 0, t, ht, cs, x, h => by simp [DataW.trod] at h
  | n + 1, t, ht, cs, x, h => by
    have h1 := List.all_eq_true.1 hR t ht
    unfold readB1 at h1
    split at h1
    · cases h1
    rename_i ty hty
    simp only [Bool.and_eq_true, decide_eq_true_eq] at h1
    obtain ⟨hcells, h1⟩ := h1
    refine ⟨ty, ?_⟩
    have ih := cells_read hT hR n
    unfold DataW.trod at h
    split at h1
    · rename_i k hu
      simp only [Bool.and_eq_true, decide_eq_true_eq] at h1
      rw [hu] at h
      split at h <;> simp_all
      exact ⟨_, CellsIs.one (.int _ _) (.int _ _ (by rename_i hh; exact h.1.2))⟩
    · rename_i hu
      simp only [Bool.and_eq_true, decide_eq_true_eq] at h1
      rw [hu] at h
      split at h <;> simp_all
      exact ⟨_, CellsIs.one (.bool _) (.bool _)⟩
    · rename_i hu
      simp only [Bool.and_eq_true, decide_eq_true_eq] at h1
      rw [hu] at h
      split at h <;> simp_all
      exact ⟨_, CellsIs.one (.str _ _ rfl) (.str _ (by rename_i hh; have := h.1; unfold maxLen at this; omega))⟩
    · rename_i e hu
      simp only [Bool.and_eq_true, decide_eq_true_eq, List.contains_iff_mem, Bool.not_eq_true'] at h1
      obtain ⟨ha, hk, he⟩ := h1
      rw [hu] at h
      have e1 := List.all_eq_true.1 hR e he
      obtain ⟨ty2, hty2⟩ : ∃ ty2, tab e = some ty2 := by
        unfold readB1 at e1
        split at e1
        · cases e1
        · rename_i ty2 h2; exact ⟨ty2, h2⟩
      have hsz : P.cellsOf e = ty2.kinds.length := by
        unfold readB1 at e1
        rw [hty2] at e1
        simp only [Bool.and_eq_true, decide_eq_true_eq] at e1
        exact e1.1
      have hpos := (hT e ty2 hty2).pos
      rw [hk]
      split at h
      case h_7 =>
        exact ⟨_, hty, CellsIs.one (.inl e [] ty2 none 0 0 0 (fun _ _ => undef) hty2 (by simp) (by simp) (by simp) (by simp) (by simp)) (.sl e ty2 [] hty2 (by simp) (by simp) (by simp))⟩
      case h_8 e' a len cap heq =>
        cases heq
        simp only at h
        split at h
        case isFalse => cases h
        rename_i hc
        obtain ⟨-, hlc, hcm⟩ := hc
        obtain ⟨elems, hel, -⟩ := Option.bind_eq_some_iff.1 h
        have hlen : elems.length = len := by simpa using mapM_some_length hel
        have hone : ∀ i, i < len → ∃ csi ys, w.cells? 0 (a.add (i * P.cellsOf e)) (P.cellsOf e) = some csi ∧ CellsIs tab w ty2.kinds csi ys := by
          intro i hi
          have hg := mapM_some_get hel i i (by simp [hi])
          obtain ⟨y, hy⟩ : ∃ y, elems[i]? = some y := ⟨elems[i], by simp [hlen, hi]⟩
          rw [hy] at hg
          obtain ⟨csi, k1, k2⟩ := Option.bind_eq_some_iff.1 hg
          obtain ⟨ty3, ys, k3, k4⟩ := ih e he csi y k2
          obtain rfl : ty2 = ty3 := Option.some.inj (hty2.symm.trans k3)
          exact ⟨csi, ys, k1, k4⟩
        have hfull : ∀ i, ∃ csi ys, i < len → w.cells? 0 (a.add (i * P.cellsOf e)) (P.cellsOf e) = some csi ∧ CellsIs tab w ty2.kinds csi ys := fun i => by
          by_cases hi : i < len
          · obtain ⟨csi, ys, k⟩ := hone i hi; exact ⟨csi, ys, fun _ => k⟩
          · exact ⟨[], [], fun h => absurd h hi⟩
        have hfull' := Classical.axiomOfChoice hfull
        obtain ⟨C, hC⟩ := hfull'
        have hC' := Classical.axiomOfChoice hC
        obtain ⟨Y, hY⟩ := hC'
        let l : List V := (List.range len).map fun i => Eng.mk ty2.agg (Y i)
        have hll : l.length = len := by simp [l]
        have hget : ∀ i, i < len → l.getD i .dead = Eng.mk ty2.agg (Y i) := fun i hi => by simp [l, List.getD, hi]
        have hsh : ∀ i, i < l.length → ZbB ty2 (l.getD i .dead) := fun i hi => by
          rw [hll] at hi
          rw [hget i hi]; exact ((hY i hi).2.shape (hT e ty2 hty2)).1
        have hcl : ∀ i j, i < len → (l.getD i .dead).cell j = (Y i).getD j .dead := fun i j hi => by
          rw [hget i hi, V.cell, ((hY i hi).2.shape (hT e ty2 hty2)).2]
        have hw0 : ∀ i j, i < len → j < ty2.kinds.length → w.cell? ((a.add (i * ty2.kinds.length)).add j) = some ((C i).getD j undef) := fun i j hi hj => by
          obtain ⟨k1, k2⟩ := hY i hi
          obtain ⟨-, q2, q3⟩ := World.cells?_some k1
          have := q3 j (by omega)
          have hj' : j < (C i).length := by omega
          rw [List.getElem?_eq_getElem hj'] at this
          have e1 : (C i).getD j undef = (C i)[j] := by simp [List.getD, hj']
          rw [e1, ← this, hsz]
        have hspot : 0 < len → a.spot = none := fun h0 => by
          have := hw0 0 0 h0 hpos
          rw [Nat.zero_mul, add_zero', add_zero'] at this
          unfold World.cell? at this
          split at this
          · split at this
            · cases this
            · rename_i hn; simpa using hn
          · cases this
        have hw : ∀ i j, i < len → j < ty2.kinds.length → w.cell? ⟨a.block, a.off + i * ty2.kinds.length + j, none⟩ = some ((C i).getD j undef) ∧ a.block < w.heap.size := fun i j hi hj => by
          have := hw0 i j hi hj
          rw [add_plain (hspot (by omega)), add_plain rfl] at this
          exact ⟨this, World.block_lt_of_cell? (w := w) (a := ⟨a.block, a.off + i * ty2.kinds.length + j, none⟩) (h := this)⟩
        refine ⟨[.inl e l], hty, CellsIs.one ?_ ?_⟩
        · have := Rp.inl (tab := tab) (w := w) (ok := (· < w.heap.size)) e l ty2 (some a) cap a.block a.off (fun i j => (C i).getD j undef) hty2 (by omega) (fun hne => ?_) hsh (fun i j hi hj => ?_) (fun i j hi hj => ?_)
          · rw [hll] at this; exact this
          · have h0 : 0 < len := by rw [← hll]; exact List.length_pos_iff.2 hne
            refine ⟨?_, (hw 0 0 h0 hpos).2⟩
            have := hspot h0
            cases a; simp_all
          · rw [hll] at hi
            exact (hw i j hi hj).1
          · rw [hll] at hi
            rw [hcl i j hi]
            exact (hY i hi).2.2.2.1 j hj
        · refine .sl e ty2 l hty2 (by unfold maxLen at hcm; omega) hsh fun i j hi hj => ?_
          rw [hll] at hi
          rw [hcl i j hi]
          exact (hY i hi).2.2.2.2 j hj
      all_goals first | (cases h; done) | simp_all
    · rename_i fs hu
      simp only [Bool.and_eq_true, decide_eq_true_eq] at h1
      obtain ⟨ha, hf, hk⟩ := h1
      rw [hu] at h
      split at h
      case h_9 fs' heq =>
        cases heq
        split at h
        case isFalse => cases h
        rename_i hcl
        obtain ⟨xs, hx, -⟩ := Option.map_eq_some_iff.1 h
        obtain ⟨ys, hys⟩ := fields_read ih _ fs.toList 0 xs hf hx
        rw [← hk, List.drop_zero, List.take_of_length_le (by omega)] at hys
        exact ⟨ys, hty, hys⟩
      all_goals first | (cases h; done) | simp_all
    · cases h1
theorem arg_read (hT : ZC P tab) {R : List TypeId} (hR : readB P tab R = true) {t : TypeId} (ht : t ∈ R) {v : Value} {d : DataW H} {ps : List MemPlace} (hv : Value.okWide P w .any 0 t v) (h : DataW.Trod enc P w 0 sp held t v d ps) :
    ∃ x, WtT tab t x ∧ Rp tab w (· < w.heap.size) x v := by
  obtain ⟨n, hn⟩ := h
  obtain ⟨ty, ys, e1, e2⟩ := cells_read hT hR n t ht _ _ hn
  have hty := hT t ty e1
  obtain ⟨s1, s2⟩ := e2.shape hty
  refine ⟨Eng.mk ty.agg ys, ⟨ty, e1, s1, fun j hj => by rw [V.cell, s2]; exact e2.2.2.2 j hj⟩, ?_⟩
  cases ha : ty.agg with
  | true =>
    obtain ⟨fs, hu, -⟩ := hty.agg ha
    unfold Value.okWide at hv
    rw [hu] at hv
    obtain ⟨cs, rfl, -⟩ := hv
    have hl := e2.2.1
    have : Rp tab w (· < w.heap.size) (.agg ys) (.agg cs.toList.toArray) := .agg ys cs.toList (by
      have : cs.toList.length = ty.kinds.length := hl
      rw [this, e2.1]) fun j hj => e2.2.2.1 j (by rw [← e2.1]; exact hj)
    simpa [Eng.mk] using this
  | false =>
    obtain ⟨h1, -, dd, hu, hns, hna⟩ := hty.flat ha
    have hone : v.cells = #[v] := by
      cases v with
      | agg cs =>
        exfalso
        unfold Value.okWide at hv
        rw [hu] at hv
        have hv : Cell.okWide P w .any 0 t (.agg cs) := by
          cases dd <;> first | exact hv | exact absurd rfl (hns _) | exact absurd rfl (hna _ _)
        unfold Cell.okWide at hv
        rw [hu] at hv
        cases dd <;> first | exact hv | (simp [Cell.ok, hu] at hv)
      | _ => rfl
    have h0 := e2.2.2.1 0 (by omega)
    have hyl := e2.1
    obtain ⟨y, rfl⟩ : ∃ y, ys = [y] := by
      match ys, hyl with
      | [y], _ => exact ⟨y, rfl⟩
      | [], h => simp at h; omega
      | _ :: _ :: _, h => simp at h; omega
    rw [hone] at h0
    simpa [Eng.mk] using h0
inductive WtAll (tab : Tab) : List TypeId → List V → Prop where
  | nil : WtAll tab [] []
  | cons {t : TypeId} {ts : List TypeId} {x : V} {xs : List V} : WtT tab t x → WtAll tab ts xs → WtAll tab (t :: ts) (x :: xs)
theorem args_read (hT : ZC P tab) {R : List TypeId} (hR : readB P tab R = true) : ∀ {ts : List TypeId} {vs : List Value} {ds : List (DataW H)} {ps : List MemPlace}, (∀ t ∈ ts, t ∈ R) →
    (∀ (j : Nat) t v, ts[j]? = some t → vs[j]? = some v → Value.okWide P w .any 0 t v) → DataW.TrodAll enc P w 0 sp held ts vs ds ps →
    ∃ xs, WtAll tab ts xs ∧ RqL (Rq2 tab w (· < w.heap.size)) xs vs [] []
  | [], vs, ds, ps, _, _, h => by
    obtain ⟨rfl, rfl, rfl⟩ := trodAll_nil h
    exact ⟨[], .nil, .nil⟩
  | t :: ts, vs, ds, ps, hR', hv, h => by
    obtain ⟨v, vs1, d, ds1, a, b, rfl, rfl, rfl, h1, h2⟩ := trodAll_cons h
    obtain ⟨x, hx, hr⟩ := arg_read hT hR (hR' t (by simp)) (hv 0 t v rfl rfl) h1
    obtain ⟨xs, hxs, hrs⟩ := args_read hT hR (fun t ht => hR' t (by simp [ht])) (fun j t v h3 h4 => hv (j + 1) t v (by simpa using h3) (by simpa using h4)) h2
    exact ⟨x :: xs, .cons hx hxs, .cons (t := []) (n := []) (.one (.tree hr)) hrs⟩
end
section
variable {H : Type} {enc : TypeId × Value → H} {P : Program} {tab : Tab} {W W' : World}
theorem frozen_of (hk : KeptBut [] W W') {a : Addr} (h : a.block < W.heap.size) : W'.frozen? a = W.frozen? a := by
  unfold World.frozen?
  rw [hk.block a.block h (by simp)]
theorem same_of (hk : KeptBut [] W W') {p : MemPlace} (h : p.block < W.heap.size) : W.sameAt W' p := by
  cases p with
  | cell b off =>
    show W'.cell? _ = W.cell? _
    unfold World.cell?
    rw [hk.block b h (by simp)]
  | map b => exact hk.block b h (by simp)
theorem kept_of (hk : KeptBut [] W W') (may : MemPlace → Prop) : W.keptBut W' may := by
  refine ⟨hk.os, hk.output, fun i hi => ?_⟩
  rw [hk.block i hi (by simp)]
  split
  · rename_i c t fr c' t' fr' h1 h2
    rw [h1] at h2; cases h2
    exact ⟨rfl, rfl, rfl, fun _ _ => rfl⟩
  · rename_i es clock es' clock' h1 h2
    rw [h1] at h2; cases h2
    exact .inr ⟨rfl, rfl⟩
  · rfl
theorem trodAll_stays {T : TypeId → Prop} (K : Kids P T) (hz : ∀ {t e : TypeId}, T t → P.underlying t = some (.slice e) → 0 < P.cellsOf e) {sp' : Nat → Bool} :
    ∀ {ts : List TypeId} {vs : List Value} {ds : List (DataW H)} {ps : List MemPlace}, (∀ t ∈ ts, T t) → DataW.TrodAll enc P W 0 (fun _ => true) true ts vs ds ps → (∀ p ∈ ps, W.sameAt W' p) → (∀ p ∈ ps, sp' p.block = true) → DataW.TrodAll enc P W' 0 sp' true ts vs ds ps
  | [], [], [], _, _, h, _, _ => h
  | t :: _, _ :: _, _ :: _, _, hT, ⟨p, q, ⟨n, h1⟩, h2, e⟩, hs, hp => ⟨p, q, ⟨n, DataW.trod_stays K hz (fun h => by cases h) (hT t (by simp)) h1 (fun x hx => hs x (by rw [e]; exact List.mem_append_left _ hx)) (fun x hx => hp x (by rw [e]; exact List.mem_append_left _ hx))⟩,
      trodAll_stays K hz (fun t ht => hT t (by simp [ht])) h2 (fun x hx => hs x (by rw [e]; exact List.mem_append_right _ hx)) (fun x hx => hp x (by rw [e]; exact List.mem_append_right _ hx)), e⟩
theorem post_of_old {f : Func} {s : ChangeSpec} {apart fresh handsOn again : Bool} {args : Array Value} {v : Value} {ds gs : List (DataW H)} {before pa pv : List MemPlace}
    (hW : DataW.Whole enc P f.params.toList s.vars apart W args.toList ds gs before)
    (hres : ∀ (b : Nat) (sp : Nat → Bool) (hd : Bool), DataW.TrodAll enc P W' b sp hd f.resultTypes.toList (v.resultList f.resultTypes.size) (s.fn H (ds ++ gs)).results [])
    (hargs : ∀ sp : Nat → Bool, (∀ p ∈ before, sp p.block = true) → DataW.TrodAll enc P W' 0 sp true f.params.toList args.toList (s.fn H (ds ++ gs)).args pa)
    (hvars : ∀ sp : Nat → Bool, (∀ p ∈ before, sp p.block = true) → DataW.TrodVars enc P W' sp s.vars (s.fn H (ds ++ gs)).vars pv)
    (hps : before = pa ++ pv) (hk : W.keptBut W' (· ∈ before)) (hfz : ∀ a : Addr, a.block < W.heap.size → W'.frozen? a = W.frozen? a)
    (hok : ∀ (j : Nat) (t : TypeId) (r : Value), f.resultTypes[j]? = some t → (v.resultList f.resultTypes.size)[j]? = some r → Value.okWide P W' .any 0 t r) :
    s.post enc P f apart fresh handsOn again W args v W' := by
  have hlt := fun p hp => hW.lt p hp
  have hold : ∀ p ∈ before, (fun b => decide (b < W.heap.size)) p.block = true := fun p hp => by simpa using hW.lt p hp
  refine ⟨ds, gs, before, [], pa, pv, hW, hres _ _ _, hargs _ hold, hvars _ hold, World.keptBut_mono (fun p hp => ⟨hp, ?_⟩) hk, fun _ => ?_⟩
  · rw [hps, List.mem_append] at hp
    exact Or.inr hp
  · obtain ⟨_, _, _, _, _, hz, hn⟩ := hW
    refine ⟨hok, _, _, ([] ++ pa) ++ pv, ⟨[] ++ pa, pv, trodAll_append (hargs _ (fun _ _ => rfl)) (hres _ _ _), hvars _ (fun _ _ => rfl), rfl, ?_, ?_⟩, ?_⟩
    · intro b off hp
      have hp' : MemPlace.cell b off ∈ before := by rw [hps]; simpa using hp
      rw [hfz ⟨b, off, none⟩ (hlt _ hp')]
      exact hz b off hp'
    · intro ha
      have := hn ha
      rw [hps] at this
      simpa using this
    · intro p hp _
      rw [hps]
      simpa using hp
theorem law_contract (hT : ZC P tab) {R : List TypeId} (hR : readB P tab R = true) (hl : laidOutB P = true) (hm : mapsRowed P = true) (hz : ((List.range P.types.size).all fun t => match P.underlying t with | some (.slice e) => decide (0 < P.cellsOf e) | _ => true) = true)
    {f : FuncId} {fn : Func} {s : ChangeSpec} {apart fresh handsOn again : Bool} (hvars : s.vars = []) (hpar : (fn.params.toList.all fun t => R.contains t && decide (t < P.types.size)) = true)
    {tb : TypeId} (hres : fn.resultTypes = #[tb]) (htb : P.underlying tb = some .bool) (hsp : ∀ (ds : List (DataW H)), ds.length = fn.params.size → s.fn H ds = { results := [.lit (.bool true)], args := ds })
    (hS : ∀ xs, WtAll tab fn.params.toList xs → SumOk P tab f xs (.bool true, []))
    (args : Array Value) (ds gs : List (DataW H)) (before : List MemPlace)
    (hval : ∀ (j : Nat) t v, fn.params[j]? = some t → args[j]? = some v → Value.okWide P W .any 0 t v)
    (hW : DataW.Whole enc P fn.params.toList s.vars apart W args.toList ds gs before) :
    Calls P f args W fun e W' => ∃ v, e = .returned v ∧ s.post enc P fn apart fresh handsOn again W args v W' := by
  have hpar' : ∀ t ∈ fn.params.toList, t ∈ R ∧ t < P.types.size := fun t ht => by
    have := List.all_eq_true.1 hpar t ht
    simpa using this
  have hW' := hW
  obtain ⟨p, q, hA, hV, hb, hfz, hnd⟩ := hW'
  rw [hvars] at hV
  obtain ⟨rfl, rfl⟩ := trodVars_none hV
  have hA' : DataW.TrodAll enc P W 0 (fun _ => true) true fn.params.toList args.toList ds p := hA
  obtain ⟨xs, hxs, hrq⟩ := args_read hT hR (fun t ht => (hpar' t ht).1) (fun j t v h1 h2 => hval j t v (by simpa using h1) (by simpa using h2)) hA'
  have hlen : ds.length = fn.params.size := by
    have : ∀ {ts : List TypeId} {vs : List Value} {ds : List (DataW H)} {ps : List MemPlace}, DataW.TrodAll enc P W 0 (fun _ => true) true ts vs ds ps → ds.length = ts.length := by
      intro ts
      induction ts with
      | nil => intro vs ds ps h; obtain ⟨rfl, rfl, rfl⟩ := trodAll_nil h; rfl
      | cons t ts ih =>
        intro vs ds ps h
        obtain ⟨v, vs1, d, ds1, a, b, rfl, rfl, rfl, h1, h2⟩ := trodAll_cons h
        simp [ih h2]
    simpa using this hA'
  have hcall := hS xs hxs W (· < W.heap.size) args.toList [] [] hrq (by simp) (fun g hg => ⟨hg, by simp⟩) (by simp)
  refine Calls.mono hcall ?_
  rintro e W' ⟨val, rfl, rt, rn, ot, on, r1, r2, h1, h2, h3, h4, hk⟩
  have hval' : val = .bool true := by
    cases r1 with | one r1 => cases r1 with | one r1 => cases r1 with | tree r1 => cases r1; rfl
  subst hval'
  refine ⟨_, rfl, ?_⟩
  have hlt : ∀ x ∈ before, x.block < W.heap.size := fun x hx => hW.lt x hx
  refine post_of_old (pa := before) (pv := []) hW (fun b sp hd => ?_) (fun sp hsp' => ?_) (fun sp _ => ?_) (by simp) (kept_of hk _) (fun a ha => frozen_of hk ha) (fun j t r hj hr => ?_)
  · rw [List.append_nil, hsp ds hlen, hres]
    refine ⟨[], [], ⟨1, ?_⟩, rfl, rfl⟩
    show DataW.trod enc P W' b sp hd 1 tb [.bool true] = _
    unfold DataW.trod
    rw [htb]
  · rw [List.append_nil, hsp ds hlen]
    rw [hb, List.append_nil] at hsp' hlt ⊢
    exact trodAll_stays (kids_rows hl hm) (fun {t e} h1 h2 => slices_full_of P hz t e h1 h2) (fun t ht => (hpar' t ht).2) hA' (fun x hx => same_of hk (hlt x hx)) hsp'
  · rw [List.append_nil, hsp ds hlen, hvars]
    exact rfl
  · rw [hres] at hj hr
    have hj0 : j = 0 ∧ t = tb := by
      cases j with
      | zero => simpa using hj.symm
      | succ j => simp at hj
    obtain ⟨rfl, rfl⟩ := hj0
    have : r = .bool true := by
      simpa [Value.resultList] using hr.symm
    subst this
    simp [Value.okWide, htb, Cell.okWide, Cell.ok]
end
end Go.Eng
namespace Go.Eng
section
variable {tab : Tab} {T : TypeId} {x : V}
theorem WtT.cell (h : WtT tab T x) (j : Nat) {k : Ck} (hk : ((tab T).bind fun ty => ty.kinds[j]?) = some k) : Wt tab k (x.cell j) := by
  obtain ⟨ty, h1, h2, h3⟩ := h
  rw [h1, Option.bind_some] at hk
  have hj := (List.getElem?_eq_some_iff.1 hk).1
  have := h3 j hj
  rwa [show ty.kinds.getD j .other = k from by simp [List.getD, hk]] at this
theorem WtT.eta (h : WtT tab T x) {ty : Ty} (ht : tab T = some ty) : x = Eng.mk ty.agg (Zax ty.kinds x 0) := by
  obtain ⟨ty', h1, h2, h3⟩ := h
  obtain rfl := Option.some.inj (ht.symm.trans h1)
  rw [Zd2 h2, mk_cells h2]
theorem wt_u8 {v : V} (h : Wt tab (.int .u8) v) : 0 ≤ v.I ∧ v.I ≤ 255 := by
  cases h with | int k n h =>
  simp [Lit.wf, IntKind.min, IntKind.max, IntKind.signed, IntKind.bits] at h
  exact h
theorem wt_sl {v : V} {e : TypeId} (h : Wt tab (.sl e) v) {w : V → Prop} (hw : ∀ y, WtT tab e y → w y) : LW w v.L := by
  cases h with | sl _ ty l h1 h2 h3 h4 =>
  refine ⟨h2, fun y hy => hw y ?_⟩
  have hy : y ∈ l := hy
  obtain ⟨i, hi, rfl⟩ := List.getElem_of_mem hy
  have e1 : l.getD i .dead = l[i] := by simp [List.getD, hi]
  exact ⟨ty, h1, by rw [← e1]; exact h3 i hi, fun j hj => by rw [← e1]; exact h4 i j hi hj⟩
theorem WtAll.one {t : TypeId} {xs : List V} (h : WtAll tab [t] xs) : ∃ a, xs = [a] ∧ WtT tab t a := by
  cases h with | cons h1 h2 => cases h2; exact ⟨_, rfl, h1⟩
end
end Go.Eng
namespace Go.Eng
variable {P : Program}
theorem run_clear_k (w : World) (t e ty : TypeId) (z : Value) (sz : Nat) (hu : P.underlying t = some (.slice e)) (hv : ∀ w, (zeroValue e).run P w = .ok z w) (hz : z.cells.size = sz) (h1 : ∀ v ∈ z.cells, v.oneCell' = true) (hsz : 0 < sz)
    (g o n : Nat) (hn : 0 < n) (cur : Array Value) (T : TypeId) (hg : w.heap[g]? = some (.cells cur T (0, 0))) (hfit : o + n * sz ≤ cur.size) :
    ∃ tl : List Value, tl.length = n * sz ∧ ∀ c, (Builtin.clear_ #[t] ty #[.slice (some ⟨g, o, none⟩) n c]).run P w = .ok (.tuple #[]) (w.setRow g (cur.toList.take o ++ tl ++ cur.toList.drop (o + tl.length)).toArray) := by
  refine ⟨(Builtin.zeroCells z.cells n).toList, by rw [Array.length_toList, size_zeroCells, hz], fun c => ?_⟩
  have hl : (Builtin.zeroCells z.cells n).toList.length = n * sz := by rw [Array.length_toList, size_zeroCells, hz]
  have hst := run_storeCells_at P g o T (Builtin.zeroCells z.cells n).toList 0 cur w hg (by rw [hl]; simpa using hfit) (fun v hv' => by
    simp only [Builtin.zeroCells, Array.toList_map, List.mem_map] at hv'
    obtain ⟨k, hk, rfl⟩ := hv'
    have hlt : k % z.cells.size < z.cells.size := Nat.mod_lt _ (by omega)
    rw [getElem!_pos z.cells _ hlt]
    exact h1 _ (Array.getElem_mem hlt))
  simp only [Nat.add_zero] at hst
  obtain ⟨m, rfl⟩ : ∃ m, n = m + 1 := ⟨n - 1, by omega⟩
  simp [Builtin.clear_, run_underlying hu, hv, hst]
section
variable {w : World} {ops : Array Oper} {rest : List Oper} {o : Oper} {a : Act} {Q : Exit → Act → World → Prop}
theorem Zd1 (hgd : o.guard = none) (d : Operand) (t : TypeId)
    (ho : o.op = .call { callee := .builtin .clear, args := #[d], argTypes := #[t] }) (v : Value) (hd : a.eval d = v) {v' : Value} {w' : World}
    (hr : (Builtin.clear_ #[t] o.type #[v]).run P w = .ok v' w') (h : wpList P ops Q rest (a.put o.dst v') w') : wpList P ops Q (o :: rest) a w :=
  wpList_plain hgd fun _ hK => by
    unfold Oper.wp execOp
    simp only [ho, resolve, invoke, builtin, Sem.run_bind, Sem.run_pure, Result.andThen_ok, List.map_toArray, List.map_cons, List.map_nil, hd, hr]
    exact hK _ _ h
theorem step_append_k {K : Act → World → Prop} {E : Prop}
    (hg : o.guard = none) (d x : Operand) (dT sT : TypeId) (hop : o.op = Op.call { callee := Callee.builtin Builtin.append, args := #[d, x], argTypes := #[dT, sT] })
    (v u : Value) (hd : a.eval d = v) (hx : a.eval x = u) {v' : Value} {w' : World} (hr : (Builtin.append_ #[dT, sT] o.type #[v, u]).run P w = .ok v' w') (hK : K (a.put o.dst v') w') :
    if Region.wanted o (yielded ops a.tmps) = true then Oper.wp P o a w K Q else E := by
  have hw : Region.wanted o (yielded ops a.tmps) = true := by simp [Region.wanted, hg]
  rw [if_pos hw]
  unfold Oper.wp
  simp [execOp, hop, resolve, invoke, builtin, hd, hx, hr, Result.andThen]
  exact hK
end
def OneL (l : List Value) : Prop := ∀ v ∈ l, v.oneCell' = true
def DelOk (P : Program) (f : FuncId) (T : TypeId) (sz : Nat) : Prop :=
  ∀ (g n cap i j : Nat) (cur : Array Value) (w : World), w.heap[g]? = some (.cells cur T (0, 0)) → cur.size = cap * sz → n ≤ cap → cap ≤ maxLen → OneL (cur.toList.take (n * sz)) → i < j → j ≤ n →
    Calls P f #[.slice (some ⟨g, 0, none⟩) n cap, .int .i64 i, .int .i64 j] w fun e w' => e = .returned (.slice (some ⟨g, 0, none⟩) (n - (j - i)) cap) ∧
      ∃ cur' : Array Value, w'.heap[g]? = some (.cells cur' T (0, 0)) ∧ cur'.size = cap * sz ∧ cur'.toList.take ((n - (j - i)) * sz) = (cur.toList.take (n * sz)).take (i * sz) ++ (cur.toList.take (n * sz)).drop (j * sz) ∧ KeptBut [g] w w'
def DelSame (P : Program) (f : FuncId) : Prop :=
  ∀ (a : Option Addr) (n cap i : Nat) (w : World), i ≤ n → n ≤ cap → cap ≤ maxLen → Calls P f #[.slice a n cap, .int .i64 i, .int .i64 i] w fun e w' => e = .returned (.slice a n cap) ∧ KeptBut [] w w'
end Go.Eng
namespace Go.Eng
variable {P : Program}
theorem src_cells {w : World} {g o m : Nat} {cur : Array Value} {T : TypeId} (hg : w.heap[g]? = some (.cells cur T (0, 0))) (h : o + m ≤ cur.size) :
    ∀ j v, ((cur.toList.drop o).take m)[j]? = some v → w.cell? ((⟨g, o, none⟩ : Addr).add j) = some v := by
  intro j v hv
  rw [List.getElem?_take] at hv
  split at hv
  · rename_i hj
    rw [List.getElem?_drop] at hv
    rw [Addr.add_none]
    have hlt := (List.getElem?_eq_some_iff.1 hv).1
    have : o + j < cur.size := by simpa using hlt
    have e := (List.getElem?_eq_some_iff.1 hv).2
    simp [World.cell?, hg, this]
    simpa using e
  · cases hv
end Go.Eng
namespace Go.Eng
end Go.Eng
namespace Go.Eng
end Go.Eng
namespace Go.Eng
variable {P : Program}
theorem rowIs_some {w : World} {T : TypeId} {sz n : Nat} {g cap : Nat} {cur : Array Value} {xs : List Value} (hc : 0 < cap) (hg : w.heap[g]? = some (.cells cur T (0, 0))) (hn : n ≤ cap) (hm : cap ≤ maxLen) (hs : cur.size = cap * sz) (hx : cur.toList.take (n * sz) = xs) :
    RowIs w T sz n (.slice (some ⟨g, 0, none⟩) n cap) xs :=
  ⟨by rw [← hx, List.length_take, Array.length_toList, hs]; exact Nat.min_eq_left (Nat.mul_le_mul_right _ hn), .inr ⟨g, cap, cur, rfl, hc, hg, hn, hm, hs, hx⟩⟩
theorem topOf_some (g n cap : Nat) (hc : 0 < cap) : Zt (.slice (some ⟨g, 0, none⟩) n cap) = [g] := by
  obtain ⟨c, rfl⟩ : ∃ c, cap = c + 1 := ⟨cap - 1, by omega⟩
  rfl
section
variable {tab : Tab}
structure Els (tab : Tab) (w : World) (ok : Nat → Prop) (ty : Ty) (own : Bool) (l : List V) (xs : List Value) (F : Nat → Nat → List Nat) : Prop where
  len : xs.length = l.length * ty.kinds.length
  shape : ∀ i, i < l.length → ZbB ty (l.getD i .dead)
  yes : own = true → ∀ i j, i < l.length → j < ty.kinds.length → Ro tab w ((l.getD i .dead).cell j) (xs.getD (i * ty.kinds.length + j) undef) (F i j)
  no : own = false → (∀ i j, F i j = []) ∧ ∀ i j, i < l.length → j < ty.kinds.length → Rp tab w ok ((l.getD i .dead).cell j) (xs.getD (i * ty.kinds.length + j) undef)
theorem RowT.els {w : World} {ok : Nat → Prop} {T : TypeId} {own : Bool} {l : List V} {v : Value} {nest : List Nat} (h : RowT tab w ok T own l v nest) {ty : Ty} (ht : tab T = some ty) :
    ∃ xs F, RowIs w T ty.kinds.length l.length v xs ∧ Els tab w ok ty own l xs F ∧ nest = ZN l.length ty.kinds.length F := by
  obtain ⟨ty', xs, ht', hr, hs, he⟩ := h
  obtain rfl := Option.some.inj (ht.symm.trans ht')
  rcases he with ⟨ho, F, hn, he⟩ | ⟨ho, hn, he⟩
  · exact ⟨xs, F, hr, ⟨hr.1, hs, fun _ => he, fun h => by rw [ho] at h; cases h⟩, hn⟩
  · refine ⟨xs, fun _ _ => [], hr, ⟨hr.1, hs, fun h => by rw [ho] at h; (cases h), fun _ => ⟨fun _ _ => rfl, he⟩⟩, ?_⟩
    rw [hn]; simp [ZN]
theorem Els.row {w : World} {ok : Nat → Prop} {T : TypeId} {own : Bool} {l : List V} {v : Value} {ty : Ty} (ht : tab T = some ty) {xs : List Value} {F : Nat → Nat → List Nat} (hr : RowIs w T ty.kinds.length l.length v xs) (h : Els tab w ok ty own l xs F) :
    RowT tab w ok T own l v (ZN l.length ty.kinds.length F) := by
  refine ⟨ty, xs, ht, hr, h.shape, ?_⟩
  cases ho : own with
  | true => exact .inl ⟨rfl, F, rfl, h.yes ho⟩
  | false =>
    obtain ⟨h1, h2⟩ := h.no ho
    refine .inr ⟨rfl, ?_, h2⟩
    simp [ZN, h1]
theorem Els.keep {w w' : World} {ok ok' : Nat → Prop} {own : Bool} {l : List V} {ty : Ty} {xs : List Value} {F : Nat → Nat → List Nat} (h : Els tab w ok ty own l xs F) (hok : ∀ g, ok g → ok' g) (hw : ∀ g, ok g → w'.heap[g]? = w.heap[g]?)
    (hF : ∀ i j, i < l.length → j < ty.kinds.length → ∀ g ∈ F i j, w'.heap[g]? = w.heap[g]?) : Els tab w' ok' ty own l xs F :=
  ⟨h.len, h.shape, fun ho i j hi hj => (h.yes ho i j hi hj).keep (hF i j hi hj), fun ho => ⟨(h.no ho).1, fun i j hi hj => ((h.no ho).2 i j hi hj).keep hok hw⟩⟩
theorem Els.one {w : World} {ok : Nat → Prop} {own : Bool} {l : List V} {ty : Ty} {xs : List Value} {F : Nat → Nat → List Nat} (h : Els tab w ok ty own l xs F) : OneL xs := by
  intro v hv
  obtain ⟨k, hk, rfl⟩ := List.getElem_of_mem hv
  rw [h.len] at hk
  obtain ⟨h1, h2, h3⟩ := divmod_idx hk
  have e : xs.getD (k / ty.kinds.length * ty.kinds.length + k % ty.kinds.length) undef = xs[k] := by rw [h3]; simp [List.getD, h.len, hk]
  rw [← e]
  cases ho : own with
  | true => exact (h.yes ho _ _ h1 h2).oneCell
  | false => exact ((h.no ho).2 _ _ h1 h2).oneCell _ ((h.shape _ h1).2.2.2 _ h2)
theorem Els.pick {w : World} {ok : Nat → Prop} {own : Bool} {l : List V} {ty : Ty} {xs : List Value} {F : Nat → Nat → List Nat} (h : Els tab w ok ty own l xs F) (φ : Nat → Nat) {l' : List V} {xs' : List Value}
    (hlen : xs'.length = l'.length * ty.kinds.length) (hφ : ∀ k, k < l'.length → φ k < l.length) (hl : ∀ k, k < l'.length → l'.getD k .dead = l.getD (φ k) .dead)
    (hx : ∀ k c, k < l'.length → c < ty.kinds.length → xs'.getD (k * ty.kinds.length + c) undef = xs.getD (φ k * ty.kinds.length + c) undef) : Els tab w ok ty own l' xs' (fun k c => F (φ k) c) :=
  ⟨hlen, fun k hk => by rw [hl k hk]; exact h.shape _ (hφ k hk), fun ho k c hk hc => by rw [hl k hk, hx k c hk hc]; exact h.yes ho _ _ (hφ k hk) hc,
   fun ho => ⟨fun k c => (h.no ho).1 _ _, fun k c hk hc => by rw [hl k hk, hx k c hk hc]; exact (h.no ho).2 _ _ (hφ k hk) hc⟩⟩
theorem Els.append {w : World} {ok : Nat → Prop} {own : Bool} {l l' : List V} {ty : Ty} {xs xs' : List Value} {F F' : Nat → Nat → List Nat} (h : Els tab w ok ty own l xs F) (h' : Els tab w ok ty own l' xs' F') :
    Els tab w ok ty own (l ++ l') (xs ++ xs') (fun k c => if k < l.length then F k c else F' (k - l.length) c) := by
  have hg1 : ∀ k, k < l.length → (l ++ l').getD k .dead = l.getD k .dead := fun k hk => by simp only [List.getD, List.getElem?_append_left hk]
  have hg2 : ∀ k, ¬ k < l.length → (l ++ l').getD k .dead = l'.getD (k - l.length) .dead := fun k hk => by simp [List.getD, List.getElem?_append_right (Nat.le_of_not_lt hk)]
  have hx1 : ∀ k c, k < l.length → c < ty.kinds.length → (xs ++ xs').getD (k * ty.kinds.length + c) undef = xs.getD (k * ty.kinds.length + c) undef := fun k c hk hc => by
    have : k * ty.kinds.length + c < xs.length := by rw [h.len]; exact Zbs hk hc
    simp only [List.getD, List.getElem?_append_left this]
  have hx2 : ∀ k c, ¬ k < l.length → c < ty.kinds.length → (xs ++ xs').getD (k * ty.kinds.length + c) undef = xs'.getD ((k - l.length) * ty.kinds.length + c) undef := fun k c hk hc => by
    have e : l.length * ty.kinds.length ≤ k * ty.kinds.length := Nat.mul_le_mul_right _ (Nat.le_of_not_lt hk)
    have : xs.length ≤ k * ty.kinds.length + c := by rw [h.len]; omega
    simp only [List.getD, List.getElem?_append_right this]
    rw [h.len, Nat.sub_mul, show k * ty.kinds.length + c - l.length * ty.kinds.length = k * ty.kinds.length - l.length * ty.kinds.length + c from by omega]
  refine ⟨by simp [h.len, h'.len, Nat.add_mul], fun k hk => ?_, fun ho k c hk hc => ?_, fun ho => ⟨fun k c => ?_, fun k c hk hc => ?_⟩⟩
  · by_cases hk' : k < l.length
    · rw [hg1 k hk']; exact h.shape k hk'
    · rw [hg2 k hk']; exact h'.shape _ (by simp at hk; omega)
  · by_cases hk' : k < l.length
    · rw [hg1 k hk', hx1 k c hk' hc, if_pos hk']; exact h.yes ho k c hk' hc
    · rw [hg2 k hk', hx2 k c hk' hc, if_neg hk']; exact h'.yes ho _ c (by simp at hk; omega) hc
  · split
    · exact (h.no ho).1 _ _
    · exact (h'.no ho).1 _ _
  · by_cases hk' : k < l.length
    · rw [hg1 k hk', hx1 k c hk' hc]; exact (h.no ho).2 k c hk' hc
    · rw [hg2 k hk', hx2 k c hk' hc]; exact (h'.no ho).2 _ c (by simp at hk; omega) hc
theorem getD_take' {α : Type} {l : List α} {n i : Nat} {d : α} (h : i < n) : (l.take n).getD i d = l.getD i d := by simp [List.getD, h]
theorem getD_drop' {α : Type} {l : List α} {n i : Nat} {d : α} : (l.drop n).getD i d = l.getD (n + i) d := by simp [List.getD]
theorem Els.take {w : World} {ok : Nat → Prop} {own : Bool} {l : List V} {ty : Ty} {xs : List Value} {F : Nat → Nat → List Nat} (h : Els tab w ok ty own l xs F) {n : Nat} (hn : n ≤ l.length) : Els tab w ok ty own (l.take n) (xs.take (n * ty.kinds.length)) F := by
  refine h.pick id (by rw [List.length_take, List.length_take, h.len, Nat.min_eq_left hn, Nat.min_eq_left (Nat.mul_le_mul_right _ hn)]) (fun k hk => by simp at hk; exact (by omega : k < l.length)) (fun k hk => ?_) fun k c hk hc => ?_
  · exact getD_take' (by simp at hk; omega)
  · exact getD_take' (Zbs (by simp at hk; omega) hc)
theorem Els.drop {w : World} {ok : Nat → Prop} {own : Bool} {l : List V} {ty : Ty} {xs : List Value} {F : Nat → Nat → List Nat} (h : Els tab w ok ty own l xs F) (n : Nat) : Els tab w ok ty own (l.drop n) (xs.drop (n * ty.kinds.length)) (fun k c => F (n + k) c) := by
  refine h.pick (fun k => n + k) (by simp [h.len, Nat.sub_mul]) (fun k hk => by simp at hk; omega) (fun k hk => getD_drop') fun k c hk hc => ?_
  rw [getD_drop', Nat.add_mul, Nat.add_assoc]
def delV (l : List V) (i j : Int) : Option (List V) := bif decide (0 ≤ i) && (decide (i ≤ j) && (decide (j ≤ (l.length : Int)) && decide (l.length ≤ 9223372036854775807))) then some (l.take i.toNat ++ l.drop j.toNat) else none
theorem flatF_sub {n m n' m' : Nat} {F F' : Nat → Nat → List Nat} (h : ∀ k c, k < n' → c < m' → ∃ k', k' < n ∧ ∃ c', c' < m ∧ F' k c = F k' c') : ∀ g ∈ ZN n' m' F', g ∈ ZN n m F := fun g hg => by
  obtain ⟨k, hk, c, hc, hg⟩ := mem_flatF.1 hg
  obtain ⟨k', hk', c', hc', e⟩ := h k c hk hc
  exact mem_flatF.2 ⟨k', hk', c', hc', e ▸ hg⟩
theorem flatF_pick {n n' m : Nat} {F : Nat → Nat → List Nat} (φ : Nat → Nat) (hφ : ∀ k, k < n' → φ k < n) (hinj : ∀ k k', k < n' → k' < n' → φ k = φ k' → k = k') (h : (ZN n m F).Nodup) : (ZN n' m fun k c => F (φ k) c).Nodup := by
  rw [nodup_flatF] at h ⊢
  refine ⟨fun k c hk hc => h.1 _ _ (hφ k hk) hc, fun k c k' c' hk hc hk' hc' hne => h.2 _ _ _ _ (hφ k hk) hc (hφ k' hk') hc' ?_⟩
  rcases hne with hne | hne
  · exact .inl fun e => hne (hinj k k' hk hk' e)
  · exact .inr hne
end
end Go.Eng
namespace Go.Eng
variable {P : Program} {tab : Tab}
theorem topOf_slice (a : Option Addr) (n cap : Nat) : Zt (.slice a n cap) = match a, cap with | some a, _ + 1 => [a.block] | _, _ => [] := by
  cases a <;> cases cap <;> rfl
theorem els_move {w w' : World} {ok : Nat → Prop} {t n : List Nat} {v' : Value} {own : Bool} {l : List V} {ty : Ty} {xs : List Value} {F : Nat → Nat → List Nat} (h : Els tab w ok ty own l xs F)
    (hF : ∀ g ∈ ZN l.length ty.kinds.length F, g ∈ n) (hnd : (t ++ n).Nodup) (hok : ∀ g, ok g → g < w.heap.size ∧ g ∉ t) (hlt : ∀ g ∈ t ++ n, g < w.heap.size) (hk : KeptBut t w w') (htop : ∀ g ∈ Zt v', g ∈ t ∨ w.heap.size ≤ g) :
    Els tab w' (fun g => (ok g ∨ g ∈ t ++ n ∨ w.heap.size ≤ g) ∧ g < w'.heap.size ∧ g ∉ ([] ++ Zt v')) ty own l xs F := by
  refine h.keep (fun g hg => ⟨.inl hg, Nat.lt_of_lt_of_le (hok g hg).1 hk.size, fun hm => ?_⟩) (fun g hg => hk.block g (hok g hg).1 (hok g hg).2) fun i j hi hj g hg => ?_
  · rcases htop g (by simpa using hm) with h1 | h1
    · exact (hok g hg).2 h1
    · have := (hok g hg).1; omega
  · have hgn := hF g (mem_flatF.2 ⟨i, hi, j, hj, hg⟩)
    refine hk.block g (hlt g (List.mem_append_right _ hgn)) fun hm => ?_
    exact (List.nodup_append.1 hnd).2.2 g hm g hgn rfl
theorem after_mk {w w' : World} {ok : Nat → Prop} {args : List V} {vals : List Value} {t n : List Nat} {T : TypeId} {own : Bool} {r : List V} {v' : Value} {ty : Ty} {xs : List Value} {F : Nat → Nat → List Nat} {outs : List V} (ht : tab T = some ty)
    (hr : RowIs w' T ty.kinds.length r.length v' xs) (he : Els tab w' (fun g => (ok g ∨ g ∈ t ++ n ∨ w.heap.size ≤ g) ∧ g < w'.heap.size ∧ g ∉ ([] ++ Zt v')) ty own r xs F)
    (hO : ∀ R : V → Value → List Nat → List Nat → Prop, (∀ v, R .dead v [] []) → OutL R (Zbt args vals) outs [] []) (hnd : (t ++ n).Nodup) (hlt : ∀ g ∈ t ++ n, g < w.heap.size)
    (hF : ∀ g ∈ ZN r.length ty.kinds.length F, g ∈ n) (hFn : (ZN r.length ty.kinds.length F).Nodup) (hk : KeptBut t w w') (htop : ∀ g ∈ Zt v', g ∈ t ∨ w.heap.size ≤ g) :
    After tab w ok args vals t n (.rr T own r, outs) v' w' := by
  have hn1 : ∀ g ∈ ZN r.length ty.kinds.length F, g < w.heap.size ∧ g ∉ t := fun g hg => ⟨hlt g (List.mem_append_right _ (hF g hg)), fun hm => (List.nodup_append.1 hnd).2.2 g hm g (hF g hg) rfl⟩
  have hT : (Zt v').Nodup := by
    cases v' with
    | slice a n c => rw [topOf_slice]; split <;> simp
    | _ => simp [Zt]
  refine ⟨Zt v', ZN r.length ty.kinds.length F, [], [], .one (.one (.row (he.row ht hr))), hO _ fun v => .one (.tree (.dead _)), ?_, ?_, ?_, ?_, hk⟩
  · simp only [List.nil_append]
    rw [List.nodup_append]
    refine ⟨hT, hFn, fun a ha b hb e => ?_⟩
    subst e
    rcases htop a ha with h | h
    · exact (hn1 a hb).2 h
    · have := (hn1 a hb).1; omega
  · simpa using htop
  · intro g hg
    exact .inl (List.mem_append_right _ (hF g (by simpa using hg)))
  · intro g hg
    simp only [List.nil_append, List.mem_append] at hg
    rcases hg with hg | hg
    · exact hr.top_lt g hg
    · exact Nat.lt_of_lt_of_le (hn1 g hg).1 hk.size
theorem rq_int {w : World} {ok : Nat → Prop} {k : IntKind} {m : Int} {v : Value} {t n : List Nat} (h : Rq2 tab w ok (.int k m) v t n) : v = .int k m ∧ t = [] ∧ n = [] := by
  cases h with | one h => cases h with | tree h => cases h; exact ⟨rfl, rfl, rfl⟩
theorem rq_rr {w : World} {ok : Nat → Prop} {T : TypeId} {own : Bool} {l : List V} {v : Value} {t n : List Nat} (h : Rq2 tab w ok (.rr T own l) v t n) : RowT tab w ok T own l v n ∧ t = Zt v := by
  cases h with | one h => cases h with
    | tree h => cases h
    | row h => exact ⟨h, rfl⟩
theorem RowIs.slice {w : World} {T : TypeId} {sz N : Nat} {v : Value} {xs : List Value} (h : RowIs w T sz N v xs) : ∃ a cap, v = .slice a N cap ∧ N ≤ cap ∧ cap ≤ maxLen := by
  rcases h.2 with ⟨a, rfl, rfl⟩ | ⟨g, cap, cur, rfl, h1, h2, h3, h4, _⟩
  · exact ⟨a, 0, rfl, Nat.le_refl _, by simp [maxLen]⟩
  · exact ⟨_, cap, rfl, h3, h4⟩
theorem sum_del {f : FuncId} {T : TypeId} {ty : Ty} {own : Bool} {l r : List V} {i j : Int} (ht : tab T = some ty) (hD : DelOk P f T ty.kinds.length) (hS : DelSame P f) (hv : delV l i j = some r) :
    SumOk P tab f [.rr T own l, .int .i64 i, .int .i64 j] (.rr T own r, [.dead]) := by
  intro w ok vals t n hrq hnd hok hlt
  cases hrq with | @cons _ v t1 n1 _ vs1 ts1 ns1 hx hxs =>
  cases hxs with | @cons _ v2 t2 n2 _ vs2 ts2 ns2 hx2 hxs =>
  cases hxs with | @cons _ v3 t3 n3 _ vs3 ts3 ns3 hx3 hxs =>
  cases hxs
  obtain ⟨rfl, rfl, rfl⟩ := rq_int hx2
  obtain ⟨rfl, rfl, rfl⟩ := rq_int hx3
  obtain ⟨hrow, rfl⟩ := rq_rr hx
  simp only [List.append_nil] at hnd hok hlt ⊢
  unfold delV at hv
  rw [Bool.cond_eq_ite] at hv
  split at hv
  case isFalse => cases hv
  rename_i hb
  cases hv
  simp only [Bool.and_eq_true, decide_eq_true_eq] at hb
  obtain ⟨hi, hij, hjl, hl63⟩ := hb
  obtain ⟨i, rfl⟩ := Int.eq_ofNat_of_zero_le hi
  obtain ⟨j, rfl⟩ := Int.eq_ofNat_of_zero_le (Int.le_trans hi hij)
  have hij : i ≤ j := by omega
  have hjl : j ≤ l.length := by omega
  simp only [Int.toNat_natCast]
  obtain ⟨xs, F, hr, he, hn⟩ := hrow.els ht
  have hO : ∀ R : V → Value → List Nat → List Nat → Prop, (∀ v, R .dead v [] []) → OutL R (Zbt [V.rr T own l, .int .i64 (i : Int), .int .i64 (j : Int)] [v, .int .i64 (i : Int), .int .i64 (j : Int)]) [.dead] [] [] := fun R h =>
    (OutL.cons (p := (V.rr T own l, v)) (t := []) (n := []) trivial (h _) .nil : OutL R [(V.rr T own l, v)] [.dead] ([] ++ []) ([] ++ []))
  have hFn0 : (ZN l.length ty.kinds.length F).Nodup := by rw [← hn]; exact (List.nodup_append.1 hnd).2.1
  have hel := (he.take (n := i) (by omega)).append (he.drop j)
  have hF' : ∀ k c, (if k < (l.take i).length then F k c else F (j + (k - (l.take i).length)) c) = F (if k < i then k else j + (k - i)) c := fun k c => by
    have : (l.take i).length = i := by simp; omega
    rw [this]; split <;> rfl
  have hlen : (l.take i ++ l.drop j).length = l.length - (j - i) := by simp; omega
  have hφ : ∀ k, k < (l.take i ++ l.drop j).length → (if k < i then k else j + (k - i)) < l.length := fun k hk => by rw [hlen] at hk; split <;> omega
  have hsub : ∀ g ∈ ZN (l.take i ++ l.drop j).length ty.kinds.length (fun k c => if k < (l.take i).length then F k c else F (j + (k - (l.take i).length)) c), g ∈ n1 := by
    rw [hn]
    exact flatF_sub fun k c hk hc => ⟨_, hφ k hk, c, hc, hF' k c⟩
  have hnod : (ZN (l.take i ++ l.drop j).length ty.kinds.length (fun k c => if k < (l.take i).length then F k c else F (j + (k - (l.take i).length)) c)).Nodup := by
    have := flatF_pick (fun k => if k < i then k else j + (k - i)) hφ (fun k k' hk hk' e => by
      split at e <;> split at e <;> omega) hFn0
    simpa only [hF'] using this
  by_cases heq : i = j
  · subst heq
    obtain ⟨a, cap, rfl, h1, h2⟩ := hr.slice
    refine Calls.mono (hS a l.length cap i w hjl h1 h2) ?_
    rintro e w' ⟨rfl, hk⟩
    have hk' : KeptBut (Zt (.slice a l.length cap)) w w' := hk.mono (by simp)
    refine ⟨_, rfl, after_mk ht (xs := xs.take (i * ty.kinds.length) ++ xs.drop (i * ty.kinds.length)) ?_ (els_move hel hsub hnd hok hlt hk' fun g hg => .inl hg) hO hnd hlt hsub hnod hk' fun g hg => .inl hg⟩
    rw [List.take_append_drop, List.take_append_drop]
    refine hr.keep fun g hg => hk.block g (hlt g (List.mem_append_left _ hg)) (by simp)
  · rcases hr.2 with ⟨a, rfl, h0⟩ | ⟨g, cap, cur, rfl, hc, hg, hN, hm, hs, hx⟩
    · omega
    refine Calls.mono (hD g l.length cap i j cur w hg hs hN hm (by rw [hx]; exact he.one) (by omega) hjl) ?_
    rintro e w' ⟨rfl, cur', k1, k2, k3, k4⟩
    have htop : Zt (Value.slice (some ⟨g, 0, none⟩) (l.length - (j - i)) cap) = Zt (Value.slice (some ⟨g, 0, none⟩) l.length cap) := by rw [topOf_some _ _ _ hc, topOf_some _ _ _ hc]
    have hk' : KeptBut (Zt (Value.slice (some ⟨g, 0, none⟩) l.length cap)) w w' := by rw [topOf_some _ _ _ hc]; exact k4
    refine ⟨_, rfl, after_mk ht (xs := xs.take (i * ty.kinds.length) ++ xs.drop (j * ty.kinds.length)) ?_ (els_move hel hsub hnd hok hlt hk' fun g hg => .inl (htop ▸ hg)) hO hnd hlt hsub hnod hk' fun g hg => .inl (htop ▸ hg)⟩
    rw [hlen]
    exact rowIs_some hc k1 (by omega) hm k2 (by rw [k3, hx])
end Go.Eng
namespace Go.Eng
variable {P : Program} {tab : Tab}
def cmpV (a b : List V) : Int := bif ltList (a.map normB) (b.map normB) then -1 else bif Zcg (a.map normB) (b.map normB) then 0 else 1
theorem compareBytes_lt : ∀ a b : List UInt8, Lib.compareBytes a b = if Op.bytesLess a b = true then -1 else if (a == b) = true then 0 else 1
  | [], [] => rfl
  | [], _ :: _ => rfl
  | _ :: _, [] => rfl
  | x :: a, y :: b => by
    have ih := compareBytes_lt a b
    unfold Lib.compareBytes
    simp only [Op.bytesLess, List.cons_beq_cons, Bool.or_eq_true, Bool.and_eq_true, decide_eq_true_eq]
    by_cases h1 : x < y
    · simp [h1]
    · by_cases h2 : y < x
      · have h3 : x ≠ y := fun e => h1 (e ▸ h2)
        simp [h1, h2, h3]
      · have h3 : x = y := UInt8.le_antisymm (UInt8.not_lt.1 h2) (UInt8.not_lt.1 h1)
        subst h3
        simp [ih]
theorem bytesOf_inl {w : World} {ok : Nat → Prop} {e : TypeId} {et : Ty} (he : tab e = some et) (ha : et.agg = false) (hk : et.kinds = [.int .u8]) {l : List V} {v : Value} (h : Rp tab w ok (.inl e l) v) :
    ∃ s, (Extern.Bytes.bytesOf v).run P w = .ok s w ∧ Zat s = l.map normB := by
  cases h with | inl _ _ ty a cap g off cv h1 h2 h3 h4 h5 h6 =>
  obtain rfl : et = ty := Option.some.inj (he.symm.trans h1)
  by_cases hl : l = []
  · subst hl
    cases a with
    | none => exact ⟨.empty, by simp [Extern.Bytes.bytesOf], rfl⟩
    | some a => exact ⟨.empty, by simp [Extern.Bytes.bytesOf, Extern.Bytes.loadBytes], rfl⟩
  · obtain ⟨rfl, -⟩ := h3 hl
    have hel : ∀ i, i < l.length → cv i 0 = .int .u8 ((l.getD i .dead).I) := fun i hi => by
      have hs := h4 i hi
      have hc0 : (l.getD i .dead).cell 0 = l.getD i .dead := by
        have hna := hs.2.2.1 ha
        cases hx : l.getD i .dead <;> first | rfl | exact absurd hx (hna _)
      have hkk := hs.2.2.2 0 (by rw [hk]; exact Nat.one_pos)
      have hr := h6 i 0 hi (by rw [hk]; exact Nat.one_pos)
      rw [hk] at hkk
      rw [hc0] at hkk hr
      cases hx : l.getD i .dead <;> rw [hx] at hkk hr <;> simp [kindOk] at hkk
      subst hkk
      rw [hr.int_eq]; rfl
    have hcell : ∀ j x, (l.map V.I)[j]? = some x → w.cell? ((⟨g, off, none⟩ : Addr).add j) = some (.int .u8 x) := fun j x hj => by
      have hlt : j < l.length := by have := (List.getElem?_eq_some_iff.1 hj).1; simpa using this
      have := h5 j 0 hlt (by rw [hk]; exact Nat.one_pos)
      rw [hk] at this
      rw [Addr.add_none]
      simp only [List.length_cons, List.length_nil, Nat.zero_add, Nat.mul_one, Nat.add_zero] at this
      rw [this, hel j hlt]
      have e2 := (List.getElem?_eq_some_iff.1 hj).2
      simp at e2
      rw [← e2]; simp [List.getD, hlt]
    have hrun := Lib.run_loadBytesX (P := P) w (l.map V.I) ⟨g, off, none⟩ .empty hcell
    rw [List.length_map] at hrun
    refine ⟨_, by simp only [Extern.Bytes.bytesOf]; exact hrun, ?_⟩
    simp only [Zat, Lib.bytesOf]
    simp
    intro x _
    simp [normB]
theorem cmp_spec {a b : ByteArray} {x y : List V} (ha : Zat a = x) (hb : Zat b = y) : Extern.BytealgCompare.cmp a b = bif ltList x y then -1 else bif Zcg x y then 0 else 1 := by
  rw [Lib.cmp_eq, compareBytes_lt, ← ha, ← hb, strOf_lt, strOf_inj]
  simp only [Bool.cond_eq_ite]
def CmpOk (P : Program) (f : FuncId) : Prop := ∀ (v1 v2 : Value) (c : Int) (w : World), (Extern.BytealgCompare.compare #[v1, v2]).run P w = .ok (.int .i64 c) w → Calls P f #[v1, v2] w fun e w' => e = .returned (.int .i64 c) ∧ KeptBut [] w w'
theorem rq_inl {w : World} {ok : Nat → Prop} {T : TypeId} {l : List V} {v : Value} {t n : List Nat} (h : Rq2 tab w ok (.inl T l) v t n) : Rp tab w ok (.inl T l) v ∧ t = [] ∧ n = [] := by
  cases h with | one h => cases h with | tree h => exact ⟨h, rfl, rfl⟩
theorem sum_cmp {f : FuncId} {e : TypeId} {et : Ty} (he : tab e = some et) (ha : et.agg = false) (hk : et.kinds = [.int .u8]) (hC : CmpOk P f) (a b : List V) : SumOk P tab f [.inl e a, .inl e b] (.int .i64 (cmpV a b), []) := by
  intro w ok vals t n hrq hnd hok hlt
  cases hrq with | @cons _ v t1 n1 _ vs1 ts1 ns1 hx hxs =>
  cases hxs with | @cons _ v2 t2 n2 _ vs2 ts2 ns2 hx2 hxs =>
  cases hxs
  obtain ⟨r1, rfl, rfl⟩ := rq_inl hx
  obtain ⟨r2, rfl, rfl⟩ := rq_inl hx2
  obtain ⟨s1, e1, e2⟩ := bytesOf_inl (P := P) he ha hk r1
  obtain ⟨s2, e3, e4⟩ := bytesOf_inl (P := P) he ha hk r2
  have hrun : (Extern.BytealgCompare.compare #[v, v2]).run P w = .ok (.int .i64 (cmpV a b)) w := by
    change Sem.run P (do pure (goInt (Extern.BytealgCompare.cmp (← Extern.Bytes.bytesOf v) (← Extern.Bytes.bytesOf v2)))) w = _
    simp only [Sem.run_bind, e1, e3, Result.andThen_ok, Sem.run_pure]
    rw [cmp_spec e2 e4]
    rfl
  refine (hC v v2 _ w hrun).mono ?_
  rintro e' w' ⟨rfl, hkp⟩
  exact ⟨_, rfl, [], [], [], [], .one (.one (.tree (.int _ _))), .nil, by simp, by simp, by simp, by simp, hkp.mono (by simp)⟩
end Go.Eng
namespace Go.Eng
variable {P : Program} {tab : Tab}
structure Reads (P : Program) (w : World) (sz m : Nat) (v : Value) (ys : List Value) : Prop where
  len : ys.length = m * sz
  one : OneL ys
  lenOf : ∀ W, (Builtin.lenOf v).run P W = .ok m W
  cells : ∀ W : World, (∀ g, g < w.heap.size → W.heap[g]? = w.heap[g]?) → (Builtin.firstCells sz m v).run P W = .ok ys.toArray W
end Go.Eng
namespace Go.Eng
end Go.Eng
namespace Go.Eng
variable {P : Program} {tab : Tab}
end Go.Eng
namespace Go.Eng
noncomputable section
variable {P : Program} {tab : Tab}
def sumsK (c d e T : Nat) : Sums := fun f args => bif Nat.beq f c then (match args with
    | [.inl e1 a, .inl e2 b] => bif Nat.beq e1 e && Nat.beq e2 e then some (true, (.int .i64 (cmpV a b), [])) else none
    | _ => none)
  else bif Nat.beq f d then (match args with
    | [.rr T1 own l, .int .i64 i, .int .i64 j] => bif Nat.beq T1 T then (match delV l i j with | some r => some (true, (.rr T own r, [.dead])) | none => none) else none
    | _ => none)
  else none
theorem sumsK_ok {c d e T : Nat} {et ty : Ty} (he : tab e = some et) (ha : et.agg = false) (hk : et.kinds = [.int .u8]) (hC : CmpOk P c) (hcE : Enters P c) (ht : tab T = some ty) (hD : DelOk P d T ty.kinds.length) (hS : DelSame P d) (hdE : Enters P d) : Za6 P tab (sumsK c d e T) := by
  intro f args r h
  unfold sumsK at h
  cases hc : Nat.beq f c with
  | true =>
    obtain rfl := Nat.eq_of_beq_eq_true hc
    rw [hc, cond_true] at h
    split at h
    · rename_i e1 a e2 b
      cases hq : (Nat.beq e1 e && Nat.beq e2 e) with
      | false => rw [hq] at h; cases h
      | true =>
        rw [hq] at h
        cases h
        rw [Bool.and_eq_true] at hq
        obtain rfl := Nat.eq_of_beq_eq_true hq.1
        obtain rfl := Nat.eq_of_beq_eq_true hq.2
        exact ⟨hcE, sum_cmp he ha hk hC a b⟩
    · cases h
  | false =>
    rw [hc, cond_false] at h
    cases hd : Nat.beq f d with
    | false => rw [hd] at h; cases h
    | true =>
      obtain rfl := Nat.eq_of_beq_eq_true hd
      rw [hd, cond_true] at h
      split at h
      · rename_i T1 own l i j
        cases hq : Nat.beq T1 T with
        | false => rw [hq] at h; cases h
        | true =>
          rw [hq, cond_true] at h
          obtain rfl := Nat.eq_of_beq_eq_true hq
          split at h
          · rename_i x hx
            cases h
            exact ⟨hdE, sum_del ht hD hS hx⟩
          · cases h
      · cases h
def cfgK (tab : Tab) (c d e T : Nat) : Cfg := { tab := tab, sums := sumsK c d e T, mutf := fun f => Nat.beq f d }
def enB {f : FuncId} {fn : Func} (hf : P.funcs[f]? = some fn) (hb : (!(fn.name == "runtime.NumGoroutine") && fn.body.isSome) = true) {b : Bool} (h : SumOk P tab f [] (.bool b, [])) : En P tab :=
  { f := f
    s := fun a => bif a.isEmpty then some (true, (V.bool b, [])) else none
    ok := by
      intro args r hr
      cases args with
      | nil => cases hr; exact h
      | cons _ _ => cases hr
    en := ZdL hf hb, par := [], wr := false }
theorem run_sum {cfg : Cfg} (hT : ZC P cfg.tab) (hS : Za6 P cfg.tab cfg.sums) (hmix : P.follows .mixedOrders = true) {il fl cl : List Nat} {cnf : Nat → Clear} (hil : fnsB P il = true) (hfl : fnsB P fl = true) {m k : Nat} {cn : Clear} {f : FuncId} {fn : Func} (hf : P.funcs[f]? = some fn) (hok : fnOk fn = true) {args : List V} (hlen : Nat.ble args.length fn.ntmps = true) {n : Nat} {r : V × List V}
    (h : ZcR { cfg with sums := runSums P cfg (fnsOf P il) fl cl cnf m k } (fnsOf P il) cn n fn args = some r) : SumOk P cfg.tab f args r := by
  simp only [fnOk, Bool.and_eq_true] at hok
  have hb : fn.body = some (Z7 fn) := by
    unfold Z7
    cases hq : fn.body with
    | none => rw [hq] at hok; simp at hok
    | some c => rfl
  exact fnG_sound (cfg := { cfg with sums := runSums P cfg (fnsOf P il) fl cl cnf m k }) hT (runSums_ok hT hS hmix (fnsB_spec hil) hfl cl cnf m k) hmix (fnsB_spec hil) hf hb hok.2 (Nat.le_of_ble_eq_true hlen) h
end
end Go.Eng
namespace Go.Eng
theorem rd_eq {l : List V} {i : Nat} (h : i < l.length) : rd l i = l[i] := by simp [rd, List.getD, h]
end Go.Eng
open Go Go.Eng
namespace Go.Eng.R
def chunks : List (List (Option Ty)) := [
  [none,
   some ⟨[.fn], false, none, [], 8⟩,
   some ⟨[.int .i64], false, none, [], 8⟩,
   some ⟨[.int .i64], false, none, [], 8⟩,
   some ⟨[.bool], false, none, [], 1⟩,
   some ⟨[.int .u8], false, none, [], 1⟩,
   some ⟨[.int .u8], false, none, [], 1⟩,
   some ⟨[.int .i64, .int .i64, .bool, .int .u8], true, none, [(0, 2), (1, 3), (2, 4), (3, 6)], 24⟩,
   some ⟨[.int .i64, .int .i64, .bool, .int .u8], true, none, [(0, 2), (1, 3), (2, 4), (3, 6)], 24⟩,
   some ⟨[.str], false, none, [], 16⟩,
   some ⟨[.str], false, none, [], 16⟩,
   some ⟨[.str], false, none, [], 16⟩,
   some ⟨[.int .u64], false, none, [], 8⟩,
   some ⟨[.str, .int .u64], true, none, [(0, 9), (1, 12)], 24⟩,
   some ⟨[.str, .int .u64], true, none, [(0, 9), (1, 12)], 24⟩,
   some ⟨[.ptr], false, none, [], 8⟩],
  [some ⟨[.ptr], false, none, [], 8⟩,
   some ⟨[.ptr], false, none, [], 8⟩,
   some ⟨[.ptr], true, none, [(0, 17)], 8⟩,
   some ⟨[.ptr], true, none, [(0, 17)], 8⟩,
   none,
   some ⟨[.int .i32], false, none, [], 4⟩,
   some ⟨[.sl 5], false, some 5, [], 24⟩,
   some ⟨[.sl 33], false, some 33, [], 24⟩,
   some ⟨[.int .i64, .sl 33], true, none, [(0, 3), (1, 23)], 32⟩,
   some ⟨[.int .i64, .sl 33], true, none, [(0, 3), (1, 23)], 32⟩,
   none,
   some ⟨[.fn], false, none, [], 8⟩,
   none,
   some ⟨[.fn], false, none, [], 8⟩,
   some ⟨[.fn], false, none, [], 8⟩,
   some ⟨[.fn], false, none, [], 8⟩],
  [some ⟨[.int .i64, .int .i64, .int .i64], true, none, [(0, 3), (1, 3), (2, 3)], 24⟩,
   some ⟨[.int .i64, .int .i64, .int .i64], true, none, [(0, 3), (1, 3), (2, 3)], 24⟩,
   some ⟨[.sl 3], false, some 3, [], 24⟩,
   some ⟨[.fn], false, none, [], 8⟩,
   some ⟨[.fn], false, none, [], 8⟩,
   some ⟨[.sl 121], false, some 121, [], 24⟩,
   some ⟨[.sl 4], false, some 4, [], 24⟩,
   some ⟨[.int .i64, .int .i64, .int .i64, .sl 121, .int .i64, .int .i64, .int .i64, .int .i64, .sl 4, .sl 3, .sl 3], true, none, [(0, 3), (1, 3), (2, 3), (3, 37), (4, 3), (5, 3), (6, 3), (7, 3), (8, 38), (9, 34), (10, 34)], 152⟩,
   some ⟨[.int .i64, .int .i64, .int .i64, .sl 121, .int .i64, .int .i64, .int .i64, .int .i64, .sl 4, .sl 3, .sl 3], true, none, [(0, 3), (1, 3), (2, 3), (3, 37), (4, 3), (5, 3), (6, 3), (7, 3), (8, 38), (9, 34), (10, 34)], 152⟩,
   none,
   some ⟨[.fn], false, none, [], 8⟩,
   some ⟨[.fn], false, none, [], 8⟩,
   some ⟨[.fn], false, none, [], 8⟩,
   some ⟨[.fn], false, none, [], 8⟩,
   none,
   some ⟨[.fn], false, none, [], 8⟩],
  [some ⟨[.fn], false, none, [], 8⟩,
   some ⟨[.fn], false, none, [], 8⟩,
   some ⟨[.fn], false, none, [], 8⟩,
   some ⟨[.fn], false, none, [], 8⟩,
   some ⟨[.fn], false, none, [], 8⟩,
   none,
   some ⟨[.fn], false, none, [], 8⟩,
   some ⟨[.fn], false, none, [], 8⟩,
   some ⟨[.fn], false, none, [], 8⟩,
   some ⟨[.int .i64, .int .i64, .int .i64, .int .i64, .int .i64, .int .i64, .sl 121, .int .i64, .bool], true, none, [(0, 3), (1, 3), (2, 3), (3, 3), (4, 3), (5, 3), (6, 37), (7, 3), (8, 4)], 88⟩,
   some ⟨[.int .i64, .int .i64, .int .i64, .int .i64, .int .i64, .int .i64, .sl 121, .int .i64, .bool], true, none, [(0, 3), (1, 3), (2, 3), (3, 3), (4, 3), (5, 3), (6, 37), (7, 3), (8, 4)], 88⟩,
   none,
   some ⟨[.fn], false, none, [], 8⟩,
   some ⟨[.sl 58], false, some 58, [], 24⟩,
   none,
   some ⟨[.fn], false, none, [], 8⟩],
  [some ⟨[.fn], false, none, [], 8⟩,
   none,
   some ⟨[.fn], false, none, [], 8⟩,
   some ⟨[.fn], false, none, [], 8⟩,
   some ⟨[.sl 3, .int .i64, .int .i64, .int .i64, .int .i64, .int .i64], true, none, [(0, 34), (1, 3), (2, 3), (3, 3), (4, 3), (5, 3)], 64⟩,
   some ⟨[.sl 3, .int .i64, .int .i64, .int .i64, .int .i64, .int .i64], true, none, [(0, 34), (1, 3), (2, 3), (3, 3), (4, 3), (5, 3)], 64⟩,
   none,
   some ⟨[.fn], false, none, [], 8⟩,
   none,
   some ⟨[.fn], false, none, [], 8⟩,
   some ⟨[.fn], false, none, [], 8⟩,
   none,
   some ⟨[.fn], false, none, [], 8⟩,
   none,
   some ⟨[.fn], false, none, [], 8⟩,
   some ⟨[.ptr], false, none, [], 8⟩],
  [some ⟨[.fn], false, none, [], 8⟩,
   some ⟨[.fn], false, none, [], 8⟩,
   some ⟨[.fn], false, none, [], 8⟩,
   some ⟨[.fn], false, none, [], 8⟩,
   some ⟨[.sl 91], false, some 91, [], 24⟩,
   some ⟨[.fn], false, none, [], 8⟩,
   some ⟨[.fn], false, none, [], 8⟩,
   some ⟨[.int .i64, .sl 5, .sl 5, .int .i64], true, none, [(0, 3), (1, 22), (2, 22), (3, 3)], 64⟩,
   some ⟨[.int .i64, .sl 5, .sl 5, .int .i64], true, none, [(0, 3), (1, 22), (2, 22), (3, 3)], 64⟩,
   some ⟨[.fn], false, none, [], 8⟩,
   some ⟨[.int .i64, .int .i64, .int .i64, .int .i64, .sl 5, .sl 5, .int .i64, .sl 5], true, none, [(0, 3), (1, 3), (2, 3), (3, 88), (7, 22)], 112⟩,
   some ⟨[.int .i64, .int .i64, .int .i64, .int .i64, .sl 5, .sl 5, .int .i64, .sl 5], true, none, [(0, 3), (1, 3), (2, 3), (3, 88), (7, 22)], 112⟩,
   some ⟨[.sl 247], false, some 247, [], 24⟩,
   some ⟨[.sl 103], false, some 103, [], 24⟩,
   some ⟨[.sl 108], false, some 108, [], 24⟩,
   some ⟨[.sl 40], false, some 40, [], 24⟩],
  [some ⟨[.sl 168], false, some 168, [], 24⟩,
   some ⟨[.bool, .bool, .sl 247, .sl 103, .sl 108, .sl 108, .sl 40, .sl 168, .sl 4, .int .i64, .int .i64], true, none, [(0, 4), (1, 4), (2, 92), (3, 93), (4, 94), (5, 94), (6, 95), (7, 96), (8, 38), (9, 3), (10, 3)], 192⟩,
   some ⟨[.bool, .bool, .sl 247, .sl 103, .sl 108, .sl 108, .sl 40, .sl 168, .sl 4, .int .i64, .int .i64], true, none, [(0, 4), (1, 4), (2, 92), (3, 93), (4, 94), (5, 94), (6, 95), (7, 96), (8, 38), (9, 3), (10, 3)], 192⟩,
   some ⟨[.fn], false, none, [], 8⟩,
   some ⟨[.int .i64, .int .i64], true, none, [(0, 3), (1, 3)], 16⟩,
   some ⟨[.int .i64, .int .i64], true, none, [(0, 3), (1, 3)], 16⟩,
   some ⟨[.int .i64, .int .i64, .int .i64, .sl 5, .sl 5, .int .i64, .int .i64, .int .i64, .int .i64, .int .i64], true, none, [(0, 3), (1, 3), (2, 88), (6, 3), (7, 3), (8, 101)], 112⟩,
   some ⟨[.int .i64, .int .i64, .int .i64, .sl 5, .sl 5, .int .i64, .int .i64, .int .i64, .int .i64, .int .i64], true, none, [(0, 3), (1, 3), (2, 88), (6, 3), (7, 3), (8, 101)], 112⟩,
   some ⟨[.fn], false, none, [], 8⟩,
   some ⟨[.int .i64, .bool, .sl 5], true, none, [(0, 3), (1, 4), (2, 22)], 40⟩,
   some ⟨[.int .i64, .bool, .sl 5], true, none, [(0, 3), (1, 4), (2, 22)], 40⟩,
   some ⟨[.int .i64, .int .i64, .sl 5, .int .i64, .int .i64, .int .i64, .bool, .sl 5], true, none, [(0, 3), (1, 3), (2, 22), (3, 3), (4, 3), (5, 106)], 96⟩,
   some ⟨[.int .i64, .int .i64, .sl 5, .int .i64, .int .i64, .int .i64, .bool, .sl 5], true, none, [(0, 3), (1, 3), (2, 22), (3, 3), (4, 3), (5, 106)], 96⟩,
   none,
   some ⟨[.fn], false, none, [], 8⟩,
   some ⟨[.fn], false, none, [], 8⟩],
  [none,
   some ⟨[.fn], false, none, [], 8⟩,
   some ⟨[.fn], false, none, [], 8⟩,
   some ⟨[.fn], false, none, [], 8⟩,
   some ⟨[.fn], false, none, [], 8⟩,
   some ⟨[.fn], false, none, [], 8⟩,
   some ⟨[.int .i64, .int .i64, .int .i64, .sl 5, .sl 5, .int .i64], true, none, [(0, 3), (1, 3), (2, 88)], 80⟩,
   some ⟨[.int .i64, .int .i64, .int .i64, .sl 5, .sl 5, .int .i64], true, none, [(0, 3), (1, 3), (2, 88)], 80⟩,
   some ⟨[.int .i64, .int .i64, .int .i64, .int .i64, .sl 5, .sl 5, .int .i64], true, none, [(0, 3), (1, 119)], 88⟩,
   some ⟨[.int .i64, .int .i64, .int .i64, .int .i64, .sl 5, .sl 5, .int .i64], true, none, [(0, 3), (1, 119)], 88⟩,
   some ⟨[.fn], false, none, [], 8⟩,
   some ⟨[.fn], false, none, [], 8⟩,
   some ⟨[.fn], false, none, [], 8⟩,
   some ⟨[.fn], false, none, [], 8⟩,
   none,
   some ⟨[.fn], false, none, [], 8⟩],
  [some ⟨[.fn], false, none, [], 8⟩,
   some ⟨[.ptr], false, none, [], 8⟩,
   some ⟨[.fn], false, none, [], 8⟩,
   some ⟨[.fn], false, none, [], 8⟩,
   some ⟨[.fn], false, none, [], 8⟩,
   some ⟨[.fn], false, none, [], 8⟩,
   some ⟨[.fn], false, none, [], 8⟩,
   some ⟨[.ptr], false, none, [], 8⟩,
   some ⟨[.ptr], false, none, [], 8⟩,
   some ⟨[.fn], false, none, [], 8⟩,
   some ⟨[.int .i64, .int .i64, .int .i64, .sl 121, .int .i64, .int .i64, .int .i64, .int .i64, .sl 4, .sl 3, .sl 3, .sl 58], true, none, [(0, 40), (11, 61)], 176⟩,
   some ⟨[.int .i64, .int .i64, .int .i64, .sl 121, .int .i64, .int .i64, .int .i64, .int .i64, .sl 4, .sl 3, .sl 3, .sl 58], true, none, [(0, 40), (11, 61)], 176⟩,
   some ⟨[.fn], false, none, [], 8⟩,
   some ⟨[.fn], false, none, [], 8⟩,
   some ⟨[.fn], false, none, [], 8⟩,
   some ⟨[.fn], false, none, [], 8⟩],
  [some ⟨[.fn], false, none, [], 8⟩,
   some ⟨[.fn], false, none, [], 8⟩,
   none,
   some ⟨[.fn], false, none, [], 8⟩,
   some ⟨[.fn], false, none, [], 8⟩,
   some ⟨[.sl 5, .int .i64, .int .i64], true, none, [(0, 22), (1, 3), (2, 3)], 40⟩,
   some ⟨[.sl 5, .int .i64, .int .i64], true, none, [(0, 22), (1, 3), (2, 3)], 40⟩,
   some ⟨[.fn], false, none, [], 8⟩,
   some ⟨[.fn], false, none, [], 8⟩,
   some ⟨[.ptr], false, none, [], 8⟩,
   some ⟨[.fn], false, none, [], 8⟩,
   some ⟨[.ptr], false, none, [], 8⟩,
   some ⟨[.fn], false, none, [], 8⟩,
   some ⟨[.sl 162], false, some 162, [], 24⟩,
   some ⟨[.sl 231], false, some 231, [], 24⟩,
   some ⟨[.sl 162, .sl 3, .sl 3, .sl 231, .int .i64, .bool, .bool, .sl 247, .sl 103, .sl 108, .sl 108, .sl 40, .sl 168, .sl 4, .int .i64, .int .i64], true, none, [(0, 157), (1, 34), (2, 34), (3, 158), (4, 3), (5, 98)], 296⟩],
  [some ⟨[.sl 162, .sl 3, .sl 3, .sl 231, .int .i64, .bool, .bool, .sl 247, .sl 103, .sl 108, .sl 108, .sl 40, .sl 168, .sl 4, .int .i64, .int .i64], true, none, [(0, 157), (1, 34), (2, 34), (3, 158), (4, 3), (5, 98)], 296⟩,
   some ⟨[.fn], false, none, [], 8⟩,
   some ⟨[.ptr], false, none, [], 8⟩,
   some ⟨[.sl 208], false, some 208, [], 24⟩,
   some ⟨[.sl 211], false, some 211, [], 24⟩,
   some ⟨[.sl 214], false, some 214, [], 24⟩,
   some ⟨[.sl 217], false, some 217, [], 24⟩,
   some ⟨[.int .i64, .sl 208, .sl 211, .int .i64, .sl 214, .sl 217], true, none, [(0, 3), (1, 163), (2, 164), (3, 3), (4, 165), (5, 166)], 112⟩,
   some ⟨[.int .i64, .sl 208, .sl 211, .int .i64, .sl 214, .sl 217], true, none, [(0, 3), (1, 163), (2, 164), (3, 3), (4, 165), (5, 166)], 112⟩,
   some ⟨[.sl 204], false, some 204, [], 24⟩,
   some ⟨[.int .i64, .int .i64, .int .i64, .sl 121, .int .i64, .int .i64, .int .i64, .int .i64, .sl 4, .sl 3, .sl 3, .int .i64, .sl 208, .sl 211, .int .i64, .sl 214, .sl 217, .int .i64, .bool, .sl 204], true, none, [(0, 40), (11, 168), (17, 3), (18, 4), (19, 169)], 304⟩,
   some ⟨[.int .i64, .int .i64, .int .i64, .sl 121, .int .i64, .int .i64, .int .i64, .int .i64, .sl 4, .sl 3, .sl 3, .int .i64, .sl 208, .sl 211, .int .i64, .sl 214, .sl 217, .int .i64, .bool, .sl 204], true, none, [(0, 40), (11, 168), (17, 3), (18, 4), (19, 169)], 304⟩,
   some ⟨[.fn], false, none, [], 8⟩,
   some ⟨[.fn], false, none, [], 8⟩,
   some ⟨[.fn], false, none, [], 8⟩,
   some ⟨[.fn], false, none, [], 8⟩],
  [some ⟨[.fn], false, none, [], 8⟩,
   some ⟨[.fn], false, none, [], 8⟩,
   some ⟨[.fn], false, none, [], 8⟩,
   some ⟨[.fn], false, none, [], 8⟩,
   some ⟨[.fn], false, none, [], 8⟩,
   some ⟨[.fn], false, none, [], 8⟩,
   some ⟨[.fn], false, none, [], 8⟩,
   some ⟨[.fn], false, none, [], 8⟩,
   some ⟨[.fn], false, none, [], 8⟩,
   some ⟨[.fn], false, none, [], 8⟩,
   some ⟨[.fn], false, none, [], 8⟩,
   some ⟨[.fn], false, none, [], 8⟩,
   some ⟨[.fn], false, none, [], 8⟩,
   some ⟨[.fn], false, none, [], 8⟩,
   some ⟨[.fn], false, none, [], 8⟩,
   some ⟨[.ptr], false, none, [], 8⟩],
  [some ⟨[.fn], false, none, [], 8⟩,
   none,
   some ⟨[.fn], false, none, [], 8⟩,
   some ⟨[.fn], false, none, [], 8⟩,
   some ⟨[.fn], false, none, [], 8⟩,
   some ⟨[.fn], false, none, [], 8⟩,
   some ⟨[.fn], false, none, [], 8⟩,
   none,
   some ⟨[.fn], false, none, [], 8⟩,
   some ⟨[.fn], false, none, [], 8⟩,
   some ⟨[.fn], false, none, [], 8⟩,
   some ⟨[.sl 5, .int .i64], true, none, [(0, 22), (1, 3)], 32⟩,
   some ⟨[.sl 5, .int .i64], true, none, [(0, 22), (1, 3)], 32⟩,
   some ⟨[.fn], false, none, [], 8⟩,
   some ⟨[.fn], false, none, [], 8⟩,
   some ⟨[.sl 5, .sl 5, .int .i64, .int .i64], true, none, [(0, 22), (1, 22), (2, 3), (3, 3)], 64⟩],
  [some ⟨[.sl 5, .sl 5, .int .i64, .int .i64], true, none, [(0, 22), (1, 22), (2, 3), (3, 3)], 64⟩,
   some ⟨[.fn], false, none, [], 8⟩,
   some ⟨[.sl 5, .int .i64], true, none, [(0, 22), (1, 3)], 32⟩,
   some ⟨[.sl 5, .int .i64], true, none, [(0, 22), (1, 3)], 32⟩,
   some ⟨[.fn], false, none, [], 8⟩,
   some ⟨[.int .i64, .bool], true, none, [(0, 3), (1, 4)], 16⟩,
   some ⟨[.int .i64, .bool], true, none, [(0, 3), (1, 4)], 16⟩,
   some ⟨[.fn], false, none, [], 8⟩,
   some ⟨[.int .i64, .int .i64, .int .i64, .int .i64], true, none, [(0, 3), (1, 3), (2, 101)], 32⟩,
   some ⟨[.int .i64, .int .i64, .int .i64, .int .i64], true, none, [(0, 3), (1, 3), (2, 101)], 32⟩,
   some ⟨[.fn], false, none, [], 8⟩,
   some ⟨[.int .u64], false, none, [], 8⟩,
   some ⟨[.fn], false, none, [], 8⟩,
   some ⟨[.fn], false, none, [], 8⟩,
   some ⟨[.fn], false, none, [], 8⟩,
   some ⟨[.fn], false, none, [], 8⟩],
  [some ⟨[.fn], false, none, [], 8⟩,
   some ⟨[.fn], false, none, [], 8⟩,
   some ⟨[.fn], false, none, [], 8⟩,
   some ⟨[.fn], false, none, [], 8⟩,
   some ⟨[.fn], false, none, [], 8⟩,
   some ⟨[.fn], false, none, [], 8⟩,
   some ⟨[.int .i64, .int .i64, .int .i64, .int .i64, .int .i64, .int .i64, .int .i64, .sl 121, .int .i64, .bool, .int .i64, .int .i64, .int .i64, .int .i64, .sl 5, .sl 5, .int .i64, .int .i64, .int .i64, .int .i64, .int .i64], true, none, [(0, 3), (1, 58), (10, 3), (11, 119), (17, 3), (18, 3), (19, 101)], 216⟩,
   some ⟨[.int .i64, .int .i64, .int .i64, .int .i64, .int .i64, .int .i64, .int .i64, .sl 121, .int .i64, .bool, .int .i64, .int .i64, .int .i64, .int .i64, .sl 5, .sl 5, .int .i64, .int .i64, .int .i64, .int .i64, .int .i64], true, none, [(0, 3), (1, 58), (10, 3), (11, 119), (17, 3), (18, 3), (19, 101)], 216⟩,
   some ⟨[.fn], false, none, [], 8⟩,
   some ⟨[.fn], false, none, [], 8⟩,
   some ⟨[.fn], false, none, [], 8⟩,
   some ⟨[.fn], false, none, [], 8⟩,
   some ⟨[.fn], false, none, [], 8⟩,
   some ⟨[.fn], false, none, [], 8⟩,
   some ⟨[.fn], false, none, [], 8⟩,
   some ⟨[.fn], false, none, [], 8⟩],
  [some ⟨[.fn], false, none, [], 8⟩,
   some ⟨[.fn], false, none, [], 8⟩,
   some ⟨[.fn], false, none, [], 8⟩,
   some ⟨[.fn], false, none, [], 8⟩,
   some ⟨[.fn], false, none, [], 8⟩,
   some ⟨[.sl 9], false, some 9, [], 24⟩,
   some ⟨[.int .i64, .int .i64, .int .i64, .int .i64, .sl 5, .sl 5, .int .i64], true, none, [(0, 3), (1, 119)], 88⟩,
   some ⟨[.int .i64, .int .i64, .int .i64, .int .i64, .sl 5, .sl 5, .int .i64], true, none, [(0, 3), (1, 119)], 88⟩,
   some ⟨[.fn], false, none, [], 8⟩,
   some ⟨[.fn], false, none, [], 8⟩,
   some ⟨[.fn], false, none, [], 8⟩,
   some ⟨[.fn], false, none, [], 8⟩,
   some ⟨[.fn], false, none, [], 8⟩,
   some ⟨[.fn], false, none, [], 8⟩,
   some ⟨[.fn], false, none, [], 8⟩,
   some ⟨[.fn], false, none, [], 8⟩],
  [some ⟨[.ptr], false, none, [], 8⟩,
   some ⟨[.fn], false, none, [], 8⟩,
   some ⟨[.fn], false, none, [], 8⟩,
   some ⟨[.fn], false, none, [], 8⟩,
   some ⟨[.fn], false, none, [], 8⟩,
   some ⟨[.fn], false, none, [], 8⟩,
   some ⟨[.fn], false, none, [], 8⟩,
   some ⟨[.fn], false, none, [], 8⟩,
   some ⟨[.fn], false, none, [], 8⟩,
   some ⟨[.fn], false, none, [], 8⟩,
   some ⟨[.fn], false, none, [], 8⟩,
   some ⟨[.fn], false, none, [], 8⟩,
   some ⟨[.fn], false, none, [], 8⟩,
   some ⟨[.fn], false, none, [], 8⟩,
   some ⟨[.fn], false, none, [], 8⟩,
   some ⟨[.fn], false, none, [], 8⟩],
  [some ⟨[.ptr, .ptr, .ptr, .str], true, none, [(0, 17), (1, 17), (2, 17), (3, 9)], 40⟩,
   some ⟨[.ptr, .ptr, .ptr, .str], true, none, [(0, 17), (1, 17), (2, 17), (3, 9)], 40⟩,
   none,
   none,
   none,
   some ⟨[.int .u32], false, none, [], 4⟩,
   some ⟨[.int .u8], false, none, [], 1⟩,
   some ⟨[.int .u8], false, none, [], 1⟩,
   some ⟨[.fn], false, none, [], 8⟩,
   some ⟨[.ptr], false, none, [], 8⟩,
   some ⟨[.int .i32], false, none, [], 4⟩,
   some ⟨[.int .i32], false, none, [], 4⟩,
   some ⟨[.int .u64, .int .u64, .int .u32, .int .u8, .int .u8, .int .u8, .int .u8, .fn, .ptr, .int .i32, .int .i32], true, none, [(0, 12), (1, 12), (2, 277), (3, 278), (4, 5), (5, 5), (6, 279), (7, 280), (8, 281), (9, 282), (10, 283)], 48⟩,
   some ⟨[.int .u64, .int .u64, .int .u32, .int .u8, .int .u8, .int .u8, .int .u8, .fn, .ptr, .int .i32, .int .i32], true, none, [(0, 12), (1, 12), (2, 277), (3, 278), (4, 5), (5, 5), (6, 279), (7, 280), (8, 281), (9, 282), (10, 283)], 48⟩,
   none,
   none]]
def tab : Tab := tabOf chunks
abbrev Ze : TypeId := 3
abbrev Zi : TypeId := 4
abbrev Zf : TypeId := 5
abbrev t_sl_byte : TypeId := 22
abbrev ZF : TypeId := 40
abbrev Zk : TypeId := 58
abbrev Zb : TypeId := 121
abbrev Zx : TypeId := 139
abbrev Zu : TypeId := 150
def Zc (x : V) : V := .agg [.int .i64 (gi x 0), .int .i64 (gi x 1), .int .i64 (gi x 2), .inl Zb (gl x 3), .int .i64 (gi x 4), .int .i64 (gi x 5), .int .i64 (gi x 6), .int .i64 (gi x 7), .inl Zi (gl x 8), .inl Ze (gl x 9), .inl Ze (gl x 10)]
def Zj (x : V) : V := .agg [.int .i64 (gi x 0), .int .i64 (gi x 1), .int .i64 (gi x 2), .int .i64 (gi x 3), .int .i64 (gi x 4), .int .i64 (gi x 5), .inl Zb (gl x 6), .int .i64 (gi x 7), .bool (gb x 8)]
def n_impl_Op (x : V) : V := .agg [.int .i64 (gi x 0), .inl Zf (gl x 1), .inl Zf (gl x 2), .int .i64 (gi x 3)]
def Zb3 (x : V) : V := .agg [.int .i64 (gi x 0), .int .i64 (gi x 1), .int .i64 (gi x 2), .inl Zf (gl x 3), .inl Zf (gl x 4), .int .i64 (gi x 5)]
def Zp (x : V) : V := .agg [.int .i64 (gi x 0), .int .i64 (gi x 1), .int .i64 (gi x 2), .int .i64 (gi x 3), .inl Zf (gl x 4), .inl Zf (gl x 5), .int .i64 (gi x 6)]
def Zg (x : V) : V := .agg [.int .i64 (gi x 0), .int .i64 (gi x 1), .int .i64 (gi x 2), .inl Zb (gl x 3), .int .i64 (gi x 4), .int .i64 (gi x 5), .int .i64 (gi x 6), .int .i64 (gi x 7), .inl Zi (gl x 8), .inl Ze (gl x 9), .inl Ze (gl x 10), .inl Zk (gl x 11)]
def Za (x : V) : V := .agg [.inl Zf (gl x 0), .int .i64 (gi x 1), .int .i64 (gi x 2)]
abbrev vi (n : Int) : V := .int .i64 n
abbrev vs (k : Nat) (T : TypeId) : V := .sl k T 0 none
abbrev ln (l : List V) : Int := ((l.length : Nat) : Int)
abbrev aliveB : Bool := true
def noL : Loops := ⟨fun _ => [], fun _ => [], fun _ => [], runL [], [], fun _ => []⟩
theorem Zan {cfg : Cfg} {fn : Func} : ZT cfg noL (Z7 fn) := GoodAll.ok (l := []) GoodAll.nil rfl
end Go.Eng.R
open Go Go.Eng
namespace Go.Eng.R
def ZbY : Nat → List V → Int → Int → Option (List V × Int)
 | 0, _, _, _ => none
 | k_ + 1, code0, h3, i4 =>
 bif (decide (i4 < ((code0.length : Nat) : Int))) then
 bif (decide (i4 < 4000)) then
 bif (Zq i4 code0.length) then
 ZbY k_ code0 (bAnd .i64 (IntKind.i64.wrap ((IntKind.i64.wrap ((IntKind.i64.wrap (h3 * 131)) + (IntKind.i64.wrap (gi (rd code0 i4.toNat) 0)))) + 7)) 1073741823) (IntKind.i64.wrap (i4 + 1))
 else none
 else some (code0, h3)
 else some (code0, h3)
def ZdV (code : List V) : Option (V) :=
 Option.bind (ZbY ((((code.length : Nat) : Int) - 0).toNat + 1) code (IntKind.i64.wrap (36565 + ((code.length : Nat) : Int))) 0) fun r1 =>
 some (V.agg [(V.inl Zf r1.1), (V.int .i64 0), (V.int .i64 r1.2)])
def Zb7 (c : V) : Option (Int × V) :=
 bif (decide ((gi c 1) < (((gl c 0).length : Nat) : Int))) then
 bif (Zq (gi c 1) ((gl c 0).length)) then
 some ((bAnd .i64 (IntKind.i64.wrap ((bAnd .i64 (bXor .i64 (sShr .i64 (IntKind.i64.wrap ((IntKind.i64.wrap ((gi c 2) * 6364136223846793005)) + 1442695040888963407)) 33) (sShr .i64 (IntKind.i64.wrap ((IntKind.i64.wrap ((gi c 2) * 6364136223846793005)) + 1442695040888963407)) 45)) 255) + (IntKind.i64.wrap (gi (rd (gl c 0) ((gi c 1).toNat)) 0)))) 255), (V.agg [(V.inl Zf (gl c 0)), (V.int .i64 (IntKind.i64.wrap ((gi c 1) + 1))), (V.int .i64 (IntKind.i64.wrap ((IntKind.i64.wrap ((gi c 2) * 6364136223846793005)) + 1442695040888963407)))]))
 else none
 else some ((bAnd .i64 (bXor .i64 (sShr .i64 (IntKind.i64.wrap ((IntKind.i64.wrap ((gi c 2) * 6364136223846793005)) + 1442695040888963407)) 33) (sShr .i64 (IntKind.i64.wrap ((IntKind.i64.wrap ((gi c 2) * 6364136223846793005)) + 1442695040888963407)) 45)) 255), (V.agg [(V.inl Zf (gl c 0)), (V.int .i64 (gi c 1)), (V.int .i64 (IntKind.i64.wrap ((IntKind.i64.wrap ((gi c 2) * 6364136223846793005)) + 1442695040888963407)))]))
def Zh (c : V) (n : Int) : Option (Int × V) :=
 bif (decide (n ≤ 0)) then
 some (0, (Za c))
 else bif (decide (n ≤ 256)) then
 Option.bind (Zb7 (Za c)) fun r3 =>
 bif (!(decide (n = 0))) then
 some ((r3.1.tmod n), (Za r3.2))
 else none
 else Option.bind (Zb7 (Za c)) fun r4 =>
 Option.bind (Zb7 (Za r4.2)) fun r5 =>
 Option.bind (Zb7 (Za r5.2)) fun r6 =>
 Option.bind (Zb7 (Za r6.2)) fun r7 =>
 bif (!(decide (n = 0))) then
 some (((IntKind.i64.wrap ((IntKind.i64.wrap ((IntKind.i64.wrap ((IntKind.i64.wrap (r4.1 * 16777216)) + (IntKind.i64.wrap (r5.1 * 65536)))) + (IntKind.i64.wrap (r6.1 * 256)))) + r7.1)).tmod n), (Za r7.2))
 else none
def Z4 (c : V) (list : List V) : Option (Int × V) :=
 Option.bind (Zh (Za c) ((list.length : Nat) : Int)) fun r8 =>
 bif (Zq r8.1 list.length) then
 some ((gi (rd list r8.1.toNat) 0), (Za r8.2))
 else none
def ZdW (c : V) : Option (Int × V) :=
 Option.bind (Z4 (Za c) [(V.int .i64 1), (V.int .i64 2), (V.int .i64 3), (V.int .i64 3), (V.int .i64 3), (V.int .i64 5)]) fun r9 =>
 some (r9.1, (Za r9.2))
def spec_l4new (id : Int) (servers : Int) : Option (V) :=
 bif (((decide ((0 : Int) ≤ servers)) && decide (servers = servers)) && (Z1 servers.toNat 1)) then
 bif (((decide ((0 : Int) ≤ servers)) && decide (servers = servers)) && (Z1 servers.toNat 8)) then
 bif (((decide ((0 : Int) ≤ servers)) && decide (servers = servers)) && (Z1 servers.toNat 8)) then
 some (V.agg [(V.int .i64 id), (V.int .i64 0), (V.int .i64 (-1)), (V.inl Zb []), (V.int .i64 0), (V.int .i64 0), (V.int .i64 (-1)), (V.int .i64 0), (V.inl Zi (List.replicate servers.toNat (V.bool false))), (V.inl Ze (List.replicate servers.toNat (V.int .i64 0))), (V.inl Ze (List.replicate servers.toNat (V.int .i64 0)))])
 else none
 else none
 else none
def Zcd (c : V) : Option (List V × V) :=
 Option.bind (Zh (Za c) 5) fun r18 =>
 bif (Zq r18.1 5) then
 some ((gs (rd [(V.str []), (V.str [(V.int .u8 120)]), (V.str [(V.int .u8 121)]), (V.str [(V.int .u8 0), (V.int .u8 255)]), (V.str [(V.int .u8 108), (V.int .u8 111), (V.int .u8 110), (V.int .u8 103), (V.int .u8 32), (V.int .u8 118), (V.int .u8 97), (V.int .u8 108), (V.int .u8 117), (V.int .u8 101)])] (0 + r18.1.toNat)) 0), (Za r18.2))
 else none
def ZbF (c : V) : Option (List V × V) :=
 Option.bind (Zh (Za c) 5) fun r20 =>
 bif (Zq r20.1 5) then
 some ((gs (rd [(V.str [(V.int .u8 97)]), (V.str [(V.int .u8 98)]), (V.str [(V.int .u8 99)]), (V.str [(V.int .u8 97), (V.int .u8 47), (V.int .u8 98)]), (V.str [(V.int .u8 100)])] (0 + r20.1.toNat)) 0), (Za r20.2))
 else none
def spec_l2op (c : V) (index : Int) : Option (V × V) :=
 Option.bind (Z4 (Za c) [(V.int .i64 1), (V.int .i64 1), (V.int .i64 1), (V.int .i64 2), (V.int .i64 3), (V.int .i64 3), (V.int .i64 4), (V.int .i64 5), (V.int .i64 6), (V.int .i64 6), (V.int .i64 7), (V.int .i64 0)]) fun r17 =>
 bif (decide (r17.1 = 1)) then
 Option.bind (Zcd (Za r17.2)) fun r19 =>
 bif (!(decide (r17.1 = 0))) then
 bif (!(decide (r17.1 = 4))) then
 bif (!(decide (r17.1 = 5))) then
 Option.bind (ZbF (Za r19.2)) fun r21 =>
 bif (decide (r17.1 = 4)) then
 Option.bind (Zh (Za r21.2) 2) fun r22 =>
 some ((V.agg [(V.int .i64 r17.1), (V.inl Zf r21.1), (V.inl Zf r19.1), (V.int .i64 r22.1)]), (Za r22.2))
 else bif (decide (r17.1 = 2)) then
 Option.bind (Zh (Za r21.2) (IntKind.i64.wrap (index + 1))) fun r23 =>
 Option.bind (Zh (Za r23.2) 2) fun r24 =>
 some ((V.agg [(V.int .i64 r17.1), (V.inl Zf r21.1), (V.inl Zf r19.1), (V.int .i64 (IntKind.i64.wrap (r23.1 * r24.1)))]), (Za r24.2))
 else bif (decide (r17.1 = 5)) then
 Option.bind (Zh (Za r21.2) 4) fun r25 =>
 bif (decide ((0 : Int) < index)) then
 Option.bind (Zh (Za r25.2) index) fun r26 =>
 some ((V.agg [(V.int .i64 r17.1), (V.inl Zf r21.1), (V.inl Zf r19.1), (V.int .i64 (IntKind.i64.wrap (1 + r26.1)))]), (Za r26.2))
 else some ((V.agg [(V.int .i64 r17.1), (V.inl Zf r21.1), (V.inl Zf r19.1), (V.int .i64 (IntKind.i64.wrap (1 + r25.1)))]), (Za r25.2))
 else bif (decide (r17.1 = 6)) then
 Option.bind (Zh (Za r21.2) 4) fun r27 =>
 bif (decide ((0 : Int) < index)) then
 Option.bind (Zh (Za r27.2) index) fun r28 =>
 some ((V.agg [(V.int .i64 r17.1), (V.inl Zf r21.1), (V.inl Zf r19.1), (V.int .i64 (IntKind.i64.wrap (1 + r28.1)))]), (Za r28.2))
 else some ((V.agg [(V.int .i64 r17.1), (V.inl Zf r21.1), (V.inl Zf r19.1), (V.int .i64 (IntKind.i64.wrap (1 + r27.1)))]), (Za r27.2))
 else bif (decide (r17.1 = 7)) then
 Option.bind (Zh (Za r21.2) 4) fun r29 =>
 bif (decide ((0 : Int) < index)) then
 Option.bind (Zh (Za r29.2) index) fun r30 =>
 some ((V.agg [(V.int .i64 r17.1), (V.inl Zf r21.1), (V.inl Zf r19.1), (V.int .i64 (IntKind.i64.wrap (1 + r30.1)))]), (Za r30.2))
 else some ((V.agg [(V.int .i64 r17.1), (V.inl Zf r21.1), (V.inl Zf r19.1), (V.int .i64 (IntKind.i64.wrap (1 + r29.1)))]), (Za r29.2))
 else some ((V.agg [(V.int .i64 r17.1), (V.inl Zf r21.1), (V.inl Zf r19.1), (V.int .i64 0)]), (Za r21.2))
 else bif (decide (r17.1 = 4)) then
 Option.bind (Zh (Za r19.2) 2) fun r31 =>
 some ((V.agg [(V.int .i64 r17.1), (V.inl Zf []), (V.inl Zf r19.1), (V.int .i64 r31.1)]), (Za r31.2))
 else bif (decide (r17.1 = 2)) then
 Option.bind (Zh (Za r19.2) (IntKind.i64.wrap (index + 1))) fun r32 =>
 Option.bind (Zh (Za r32.2) 2) fun r33 =>
 some ((V.agg [(V.int .i64 r17.1), (V.inl Zf []), (V.inl Zf r19.1), (V.int .i64 (IntKind.i64.wrap (r32.1 * r33.1)))]), (Za r33.2))
 else bif (decide (r17.1 = 5)) then
 Option.bind (Zh (Za r19.2) 4) fun r34 =>
 bif (decide ((0 : Int) < index)) then
 Option.bind (Zh (Za r34.2) index) fun r35 =>
 some ((V.agg [(V.int .i64 r17.1), (V.inl Zf []), (V.inl Zf r19.1), (V.int .i64 (IntKind.i64.wrap (1 + r35.1)))]), (Za r35.2))
 else some ((V.agg [(V.int .i64 r17.1), (V.inl Zf []), (V.inl Zf r19.1), (V.int .i64 (IntKind.i64.wrap (1 + r34.1)))]), (Za r34.2))
 else bif (decide (r17.1 = 6)) then
 Option.bind (Zh (Za r19.2) 4) fun r36 =>
 bif (decide ((0 : Int) < index)) then
 Option.bind (Zh (Za r36.2) index) fun r37 =>
 some ((V.agg [(V.int .i64 r17.1), (V.inl Zf []), (V.inl Zf r19.1), (V.int .i64 (IntKind.i64.wrap (1 + r37.1)))]), (Za r37.2))
 else some ((V.agg [(V.int .i64 r17.1), (V.inl Zf []), (V.inl Zf r19.1), (V.int .i64 (IntKind.i64.wrap (1 + r36.1)))]), (Za r36.2))
 else bif (decide (r17.1 = 7)) then
 Option.bind (Zh (Za r19.2) 4) fun r38 =>
 bif (decide ((0 : Int) < index)) then
 Option.bind (Zh (Za r38.2) index) fun r39 =>
 some ((V.agg [(V.int .i64 r17.1), (V.inl Zf []), (V.inl Zf r19.1), (V.int .i64 (IntKind.i64.wrap (1 + r39.1)))]), (Za r39.2))
 else some ((V.agg [(V.int .i64 r17.1), (V.inl Zf []), (V.inl Zf r19.1), (V.int .i64 (IntKind.i64.wrap (1 + r38.1)))]), (Za r38.2))
 else some ((V.agg [(V.int .i64 r17.1), (V.inl Zf []), (V.inl Zf r19.1), (V.int .i64 0)]), (Za r19.2))
 else bif (decide (r17.1 = 4)) then
 Option.bind (Zh (Za r19.2) 2) fun r40 =>
 some ((V.agg [(V.int .i64 r17.1), (V.inl Zf []), (V.inl Zf r19.1), (V.int .i64 r40.1)]), (Za r40.2))
 else bif (decide (r17.1 = 2)) then
 Option.bind (Zh (Za r19.2) (IntKind.i64.wrap (index + 1))) fun r41 =>
 Option.bind (Zh (Za r41.2) 2) fun r42 =>
 some ((V.agg [(V.int .i64 r17.1), (V.inl Zf []), (V.inl Zf r19.1), (V.int .i64 (IntKind.i64.wrap (r41.1 * r42.1)))]), (Za r42.2))
 else bif (decide (r17.1 = 5)) then
 Option.bind (Zh (Za r19.2) 4) fun r43 =>
 bif (decide ((0 : Int) < index)) then
 Option.bind (Zh (Za r43.2) index) fun r44 =>
 some ((V.agg [(V.int .i64 r17.1), (V.inl Zf []), (V.inl Zf r19.1), (V.int .i64 (IntKind.i64.wrap (1 + r44.1)))]), (Za r44.2))
 else some ((V.agg [(V.int .i64 r17.1), (V.inl Zf []), (V.inl Zf r19.1), (V.int .i64 (IntKind.i64.wrap (1 + r43.1)))]), (Za r43.2))
 else bif (decide (r17.1 = 6)) then
 Option.bind (Zh (Za r19.2) 4) fun r45 =>
 bif (decide ((0 : Int) < index)) then
 Option.bind (Zh (Za r45.2) index) fun r46 =>
 some ((V.agg [(V.int .i64 r17.1), (V.inl Zf []), (V.inl Zf r19.1), (V.int .i64 (IntKind.i64.wrap (1 + r46.1)))]), (Za r46.2))
 else some ((V.agg [(V.int .i64 r17.1), (V.inl Zf []), (V.inl Zf r19.1), (V.int .i64 (IntKind.i64.wrap (1 + r45.1)))]), (Za r45.2))
 else bif (decide (r17.1 = 7)) then
 Option.bind (Zh (Za r19.2) 4) fun r47 =>
 bif (decide ((0 : Int) < index)) then
 Option.bind (Zh (Za r47.2) index) fun r48 =>
 some ((V.agg [(V.int .i64 r17.1), (V.inl Zf []), (V.inl Zf r19.1), (V.int .i64 (IntKind.i64.wrap (1 + r48.1)))]), (Za r48.2))
 else some ((V.agg [(V.int .i64 r17.1), (V.inl Zf []), (V.inl Zf r19.1), (V.int .i64 (IntKind.i64.wrap (1 + r47.1)))]), (Za r47.2))
 else some ((V.agg [(V.int .i64 r17.1), (V.inl Zf []), (V.inl Zf r19.1), (V.int .i64 0)]), (Za r19.2))
 else bif (decide (r17.1 = 4)) then
 Option.bind (Zh (Za r19.2) 2) fun r49 =>
 some ((V.agg [(V.int .i64 r17.1), (V.inl Zf []), (V.inl Zf r19.1), (V.int .i64 r49.1)]), (Za r49.2))
 else bif (decide (r17.1 = 2)) then
 Option.bind (Zh (Za r19.2) (IntKind.i64.wrap (index + 1))) fun r50 =>
 Option.bind (Zh (Za r50.2) 2) fun r51 =>
 some ((V.agg [(V.int .i64 r17.1), (V.inl Zf []), (V.inl Zf r19.1), (V.int .i64 (IntKind.i64.wrap (r50.1 * r51.1)))]), (Za r51.2))
 else bif (decide (r17.1 = 5)) then
 Option.bind (Zh (Za r19.2) 4) fun r52 =>
 bif (decide ((0 : Int) < index)) then
 Option.bind (Zh (Za r52.2) index) fun r53 =>
 some ((V.agg [(V.int .i64 r17.1), (V.inl Zf []), (V.inl Zf r19.1), (V.int .i64 (IntKind.i64.wrap (1 + r53.1)))]), (Za r53.2))
 else some ((V.agg [(V.int .i64 r17.1), (V.inl Zf []), (V.inl Zf r19.1), (V.int .i64 (IntKind.i64.wrap (1 + r52.1)))]), (Za r52.2))
 else bif (decide (r17.1 = 6)) then
 Option.bind (Zh (Za r19.2) 4) fun r54 =>
 bif (decide ((0 : Int) < index)) then
 Option.bind (Zh (Za r54.2) index) fun r55 =>
 some ((V.agg [(V.int .i64 r17.1), (V.inl Zf []), (V.inl Zf r19.1), (V.int .i64 (IntKind.i64.wrap (1 + r55.1)))]), (Za r55.2))
 else some ((V.agg [(V.int .i64 r17.1), (V.inl Zf []), (V.inl Zf r19.1), (V.int .i64 (IntKind.i64.wrap (1 + r54.1)))]), (Za r54.2))
 else bif (decide (r17.1 = 7)) then
 Option.bind (Zh (Za r19.2) 4) fun r56 =>
 bif (decide ((0 : Int) < index)) then
 Option.bind (Zh (Za r56.2) index) fun r57 =>
 some ((V.agg [(V.int .i64 r17.1), (V.inl Zf []), (V.inl Zf r19.1), (V.int .i64 (IntKind.i64.wrap (1 + r57.1)))]), (Za r57.2))
 else some ((V.agg [(V.int .i64 r17.1), (V.inl Zf []), (V.inl Zf r19.1), (V.int .i64 (IntKind.i64.wrap (1 + r56.1)))]), (Za r56.2))
 else some ((V.agg [(V.int .i64 r17.1), (V.inl Zf []), (V.inl Zf r19.1), (V.int .i64 0)]), (Za r19.2))
 else bif (decide (r17.1 = 2)) then
 Option.bind (Zcd (Za r17.2)) fun r58 =>
 bif (!(decide (r17.1 = 0))) then
 bif (!(decide (r17.1 = 4))) then
 bif (!(decide (r17.1 = 5))) then
 Option.bind (ZbF (Za r58.2)) fun r59 =>
 bif (decide (r17.1 = 4)) then
 Option.bind (Zh (Za r59.2) 2) fun r60 =>
 some ((V.agg [(V.int .i64 r17.1), (V.inl Zf r59.1), (V.inl Zf r58.1), (V.int .i64 r60.1)]), (Za r60.2))
 else bif (decide (r17.1 = 2)) then
 Option.bind (Zh (Za r59.2) (IntKind.i64.wrap (index + 1))) fun r61 =>
 Option.bind (Zh (Za r61.2) 2) fun r62 =>
 some ((V.agg [(V.int .i64 r17.1), (V.inl Zf r59.1), (V.inl Zf r58.1), (V.int .i64 (IntKind.i64.wrap (r61.1 * r62.1)))]), (Za r62.2))
 else bif (decide (r17.1 = 5)) then
 Option.bind (Zh (Za r59.2) 4) fun r63 =>
 bif (decide ((0 : Int) < index)) then
 Option.bind (Zh (Za r63.2) index) fun r64 =>
 some ((V.agg [(V.int .i64 r17.1), (V.inl Zf r59.1), (V.inl Zf r58.1), (V.int .i64 (IntKind.i64.wrap (1 + r64.1)))]), (Za r64.2))
 else some ((V.agg [(V.int .i64 r17.1), (V.inl Zf r59.1), (V.inl Zf r58.1), (V.int .i64 (IntKind.i64.wrap (1 + r63.1)))]), (Za r63.2))
 else bif (decide (r17.1 = 6)) then
 Option.bind (Zh (Za r59.2) 4) fun r65 =>
 bif (decide ((0 : Int) < index)) then
 Option.bind (Zh (Za r65.2) index) fun r66 =>
 some ((V.agg [(V.int .i64 r17.1), (V.inl Zf r59.1), (V.inl Zf r58.1), (V.int .i64 (IntKind.i64.wrap (1 + r66.1)))]), (Za r66.2))
 else some ((V.agg [(V.int .i64 r17.1), (V.inl Zf r59.1), (V.inl Zf r58.1), (V.int .i64 (IntKind.i64.wrap (1 + r65.1)))]), (Za r65.2))
 else bif (decide (r17.1 = 7)) then
 Option.bind (Zh (Za r59.2) 4) fun r67 =>
 bif (decide ((0 : Int) < index)) then
 Option.bind (Zh (Za r67.2) index) fun r68 =>
 some ((V.agg [(V.int .i64 r17.1), (V.inl Zf r59.1), (V.inl Zf r58.1), (V.int .i64 (IntKind.i64.wrap (1 + r68.1)))]), (Za r68.2))
 else some ((V.agg [(V.int .i64 r17.1), (V.inl Zf r59.1), (V.inl Zf r58.1), (V.int .i64 (IntKind.i64.wrap (1 + r67.1)))]), (Za r67.2))
 else some ((V.agg [(V.int .i64 r17.1), (V.inl Zf r59.1), (V.inl Zf r58.1), (V.int .i64 0)]), (Za r59.2))
 else bif (decide (r17.1 = 4)) then
 Option.bind (Zh (Za r58.2) 2) fun r69 =>
 some ((V.agg [(V.int .i64 r17.1), (V.inl Zf []), (V.inl Zf r58.1), (V.int .i64 r69.1)]), (Za r69.2))
 else bif (decide (r17.1 = 2)) then
 Option.bind (Zh (Za r58.2) (IntKind.i64.wrap (index + 1))) fun r70 =>
 Option.bind (Zh (Za r70.2) 2) fun r71 =>
 some ((V.agg [(V.int .i64 r17.1), (V.inl Zf []), (V.inl Zf r58.1), (V.int .i64 (IntKind.i64.wrap (r70.1 * r71.1)))]), (Za r71.2))
 else bif (decide (r17.1 = 5)) then
 Option.bind (Zh (Za r58.2) 4) fun r72 =>
 bif (decide ((0 : Int) < index)) then
 Option.bind (Zh (Za r72.2) index) fun r73 =>
 some ((V.agg [(V.int .i64 r17.1), (V.inl Zf []), (V.inl Zf r58.1), (V.int .i64 (IntKind.i64.wrap (1 + r73.1)))]), (Za r73.2))
 else some ((V.agg [(V.int .i64 r17.1), (V.inl Zf []), (V.inl Zf r58.1), (V.int .i64 (IntKind.i64.wrap (1 + r72.1)))]), (Za r72.2))
 else bif (decide (r17.1 = 6)) then
 Option.bind (Zh (Za r58.2) 4) fun r74 =>
 bif (decide ((0 : Int) < index)) then
 Option.bind (Zh (Za r74.2) index) fun r75 =>
 some ((V.agg [(V.int .i64 r17.1), (V.inl Zf []), (V.inl Zf r58.1), (V.int .i64 (IntKind.i64.wrap (1 + r75.1)))]), (Za r75.2))
 else some ((V.agg [(V.int .i64 r17.1), (V.inl Zf []), (V.inl Zf r58.1), (V.int .i64 (IntKind.i64.wrap (1 + r74.1)))]), (Za r74.2))
 else bif (decide (r17.1 = 7)) then
 Option.bind (Zh (Za r58.2) 4) fun r76 =>
 bif (decide ((0 : Int) < index)) then
 Option.bind (Zh (Za r76.2) index) fun r77 =>
 some ((V.agg [(V.int .i64 r17.1), (V.inl Zf []), (V.inl Zf r58.1), (V.int .i64 (IntKind.i64.wrap (1 + r77.1)))]), (Za r77.2))
 else some ((V.agg [(V.int .i64 r17.1), (V.inl Zf []), (V.inl Zf r58.1), (V.int .i64 (IntKind.i64.wrap (1 + r76.1)))]), (Za r76.2))
 else some ((V.agg [(V.int .i64 r17.1), (V.inl Zf []), (V.inl Zf r58.1), (V.int .i64 0)]), (Za r58.2))
 else bif (decide (r17.1 = 4)) then
 Option.bind (Zh (Za r58.2) 2) fun r78 =>
 some ((V.agg [(V.int .i64 r17.1), (V.inl Zf []), (V.inl Zf r58.1), (V.int .i64 r78.1)]), (Za r78.2))
 else bif (decide (r17.1 = 2)) then
 Option.bind (Zh (Za r58.2) (IntKind.i64.wrap (index + 1))) fun r79 =>
 Option.bind (Zh (Za r79.2) 2) fun r80 =>
 some ((V.agg [(V.int .i64 r17.1), (V.inl Zf []), (V.inl Zf r58.1), (V.int .i64 (IntKind.i64.wrap (r79.1 * r80.1)))]), (Za r80.2))
 else bif (decide (r17.1 = 5)) then
 Option.bind (Zh (Za r58.2) 4) fun r81 =>
 bif (decide ((0 : Int) < index)) then
 Option.bind (Zh (Za r81.2) index) fun r82 =>
 some ((V.agg [(V.int .i64 r17.1), (V.inl Zf []), (V.inl Zf r58.1), (V.int .i64 (IntKind.i64.wrap (1 + r82.1)))]), (Za r82.2))
 else some ((V.agg [(V.int .i64 r17.1), (V.inl Zf []), (V.inl Zf r58.1), (V.int .i64 (IntKind.i64.wrap (1 + r81.1)))]), (Za r81.2))
 else bif (decide (r17.1 = 6)) then
 Option.bind (Zh (Za r58.2) 4) fun r83 =>
 bif (decide ((0 : Int) < index)) then
 Option.bind (Zh (Za r83.2) index) fun r84 =>
 some ((V.agg [(V.int .i64 r17.1), (V.inl Zf []), (V.inl Zf r58.1), (V.int .i64 (IntKind.i64.wrap (1 + r84.1)))]), (Za r84.2))
 else some ((V.agg [(V.int .i64 r17.1), (V.inl Zf []), (V.inl Zf r58.1), (V.int .i64 (IntKind.i64.wrap (1 + r83.1)))]), (Za r83.2))
 else bif (decide (r17.1 = 7)) then
 Option.bind (Zh (Za r58.2) 4) fun r85 =>
 bif (decide ((0 : Int) < index)) then
 Option.bind (Zh (Za r85.2) index) fun r86 =>
 some ((V.agg [(V.int .i64 r17.1), (V.inl Zf []), (V.inl Zf r58.1), (V.int .i64 (IntKind.i64.wrap (1 + r86.1)))]), (Za r86.2))
 else some ((V.agg [(V.int .i64 r17.1), (V.inl Zf []), (V.inl Zf r58.1), (V.int .i64 (IntKind.i64.wrap (1 + r85.1)))]), (Za r85.2))
 else some ((V.agg [(V.int .i64 r17.1), (V.inl Zf []), (V.inl Zf r58.1), (V.int .i64 0)]), (Za r58.2))
 else bif (decide (r17.1 = 4)) then
 Option.bind (Zh (Za r58.2) 2) fun r87 =>
 some ((V.agg [(V.int .i64 r17.1), (V.inl Zf []), (V.inl Zf r58.1), (V.int .i64 r87.1)]), (Za r87.2))
 else bif (decide (r17.1 = 2)) then
 Option.bind (Zh (Za r58.2) (IntKind.i64.wrap (index + 1))) fun r88 =>
 Option.bind (Zh (Za r88.2) 2) fun r89 =>
 some ((V.agg [(V.int .i64 r17.1), (V.inl Zf []), (V.inl Zf r58.1), (V.int .i64 (IntKind.i64.wrap (r88.1 * r89.1)))]), (Za r89.2))
 else bif (decide (r17.1 = 5)) then
 Option.bind (Zh (Za r58.2) 4) fun r90 =>
 bif (decide ((0 : Int) < index)) then
 Option.bind (Zh (Za r90.2) index) fun r91 =>
 some ((V.agg [(V.int .i64 r17.1), (V.inl Zf []), (V.inl Zf r58.1), (V.int .i64 (IntKind.i64.wrap (1 + r91.1)))]), (Za r91.2))
 else some ((V.agg [(V.int .i64 r17.1), (V.inl Zf []), (V.inl Zf r58.1), (V.int .i64 (IntKind.i64.wrap (1 + r90.1)))]), (Za r90.2))
 else bif (decide (r17.1 = 6)) then
 Option.bind (Zh (Za r58.2) 4) fun r92 =>
 bif (decide ((0 : Int) < index)) then
 Option.bind (Zh (Za r92.2) index) fun r93 =>
 some ((V.agg [(V.int .i64 r17.1), (V.inl Zf []), (V.inl Zf r58.1), (V.int .i64 (IntKind.i64.wrap (1 + r93.1)))]), (Za r93.2))
 else some ((V.agg [(V.int .i64 r17.1), (V.inl Zf []), (V.inl Zf r58.1), (V.int .i64 (IntKind.i64.wrap (1 + r92.1)))]), (Za r92.2))
 else bif (decide (r17.1 = 7)) then
 Option.bind (Zh (Za r58.2) 4) fun r94 =>
 bif (decide ((0 : Int) < index)) then
 Option.bind (Zh (Za r94.2) index) fun r95 =>
 some ((V.agg [(V.int .i64 r17.1), (V.inl Zf []), (V.inl Zf r58.1), (V.int .i64 (IntKind.i64.wrap (1 + r95.1)))]), (Za r95.2))
 else some ((V.agg [(V.int .i64 r17.1), (V.inl Zf []), (V.inl Zf r58.1), (V.int .i64 (IntKind.i64.wrap (1 + r94.1)))]), (Za r94.2))
 else some ((V.agg [(V.int .i64 r17.1), (V.inl Zf []), (V.inl Zf r58.1), (V.int .i64 0)]), (Za r58.2))
 else bif (decide (r17.1 = 6)) then
 Option.bind (Zcd (Za r17.2)) fun r96 =>
 bif (!(decide (r17.1 = 0))) then
 bif (!(decide (r17.1 = 4))) then
 bif (!(decide (r17.1 = 5))) then
 Option.bind (ZbF (Za r96.2)) fun r97 =>
 bif (decide (r17.1 = 4)) then
 Option.bind (Zh (Za r97.2) 2) fun r98 =>
 some ((V.agg [(V.int .i64 r17.1), (V.inl Zf r97.1), (V.inl Zf r96.1), (V.int .i64 r98.1)]), (Za r98.2))
 else bif (decide (r17.1 = 2)) then
 Option.bind (Zh (Za r97.2) (IntKind.i64.wrap (index + 1))) fun r99 =>
 Option.bind (Zh (Za r99.2) 2) fun r100 =>
 some ((V.agg [(V.int .i64 r17.1), (V.inl Zf r97.1), (V.inl Zf r96.1), (V.int .i64 (IntKind.i64.wrap (r99.1 * r100.1)))]), (Za r100.2))
 else bif (decide (r17.1 = 5)) then
 Option.bind (Zh (Za r97.2) 4) fun r101 =>
 bif (decide ((0 : Int) < index)) then
 Option.bind (Zh (Za r101.2) index) fun r102 =>
 some ((V.agg [(V.int .i64 r17.1), (V.inl Zf r97.1), (V.inl Zf r96.1), (V.int .i64 (IntKind.i64.wrap (1 + r102.1)))]), (Za r102.2))
 else some ((V.agg [(V.int .i64 r17.1), (V.inl Zf r97.1), (V.inl Zf r96.1), (V.int .i64 (IntKind.i64.wrap (1 + r101.1)))]), (Za r101.2))
 else bif (decide (r17.1 = 6)) then
 Option.bind (Zh (Za r97.2) 4) fun r103 =>
 bif (decide ((0 : Int) < index)) then
 Option.bind (Zh (Za r103.2) index) fun r104 =>
 some ((V.agg [(V.int .i64 r17.1), (V.inl Zf r97.1), (V.inl Zf r96.1), (V.int .i64 (IntKind.i64.wrap (1 + r104.1)))]), (Za r104.2))
 else some ((V.agg [(V.int .i64 r17.1), (V.inl Zf r97.1), (V.inl Zf r96.1), (V.int .i64 (IntKind.i64.wrap (1 + r103.1)))]), (Za r103.2))
 else bif (decide (r17.1 = 7)) then
 Option.bind (Zh (Za r97.2) 4) fun r105 =>
 bif (decide ((0 : Int) < index)) then
 Option.bind (Zh (Za r105.2) index) fun r106 =>
 some ((V.agg [(V.int .i64 r17.1), (V.inl Zf r97.1), (V.inl Zf r96.1), (V.int .i64 (IntKind.i64.wrap (1 + r106.1)))]), (Za r106.2))
 else some ((V.agg [(V.int .i64 r17.1), (V.inl Zf r97.1), (V.inl Zf r96.1), (V.int .i64 (IntKind.i64.wrap (1 + r105.1)))]), (Za r105.2))
 else some ((V.agg [(V.int .i64 r17.1), (V.inl Zf r97.1), (V.inl Zf r96.1), (V.int .i64 0)]), (Za r97.2))
 else bif (decide (r17.1 = 4)) then
 Option.bind (Zh (Za r96.2) 2) fun r107 =>
 some ((V.agg [(V.int .i64 r17.1), (V.inl Zf []), (V.inl Zf r96.1), (V.int .i64 r107.1)]), (Za r107.2))
 else bif (decide (r17.1 = 2)) then
 Option.bind (Zh (Za r96.2) (IntKind.i64.wrap (index + 1))) fun r108 =>
 Option.bind (Zh (Za r108.2) 2) fun r109 =>
 some ((V.agg [(V.int .i64 r17.1), (V.inl Zf []), (V.inl Zf r96.1), (V.int .i64 (IntKind.i64.wrap (r108.1 * r109.1)))]), (Za r109.2))
 else bif (decide (r17.1 = 5)) then
 Option.bind (Zh (Za r96.2) 4) fun r110 =>
 bif (decide ((0 : Int) < index)) then
 Option.bind (Zh (Za r110.2) index) fun r111 =>
 some ((V.agg [(V.int .i64 r17.1), (V.inl Zf []), (V.inl Zf r96.1), (V.int .i64 (IntKind.i64.wrap (1 + r111.1)))]), (Za r111.2))
 else some ((V.agg [(V.int .i64 r17.1), (V.inl Zf []), (V.inl Zf r96.1), (V.int .i64 (IntKind.i64.wrap (1 + r110.1)))]), (Za r110.2))
 else bif (decide (r17.1 = 6)) then
 Option.bind (Zh (Za r96.2) 4) fun r112 =>
 bif (decide ((0 : Int) < index)) then
 Option.bind (Zh (Za r112.2) index) fun r113 =>
 some ((V.agg [(V.int .i64 r17.1), (V.inl Zf []), (V.inl Zf r96.1), (V.int .i64 (IntKind.i64.wrap (1 + r113.1)))]), (Za r113.2))
 else some ((V.agg [(V.int .i64 r17.1), (V.inl Zf []), (V.inl Zf r96.1), (V.int .i64 (IntKind.i64.wrap (1 + r112.1)))]), (Za r112.2))
 else bif (decide (r17.1 = 7)) then
 Option.bind (Zh (Za r96.2) 4) fun r114 =>
 bif (decide ((0 : Int) < index)) then
 Option.bind (Zh (Za r114.2) index) fun r115 =>
 some ((V.agg [(V.int .i64 r17.1), (V.inl Zf []), (V.inl Zf r96.1), (V.int .i64 (IntKind.i64.wrap (1 + r115.1)))]), (Za r115.2))
 else some ((V.agg [(V.int .i64 r17.1), (V.inl Zf []), (V.inl Zf r96.1), (V.int .i64 (IntKind.i64.wrap (1 + r114.1)))]), (Za r114.2))
 else some ((V.agg [(V.int .i64 r17.1), (V.inl Zf []), (V.inl Zf r96.1), (V.int .i64 0)]), (Za r96.2))
 else bif (decide (r17.1 = 4)) then
 Option.bind (Zh (Za r96.2) 2) fun r116 =>
 some ((V.agg [(V.int .i64 r17.1), (V.inl Zf []), (V.inl Zf r96.1), (V.int .i64 r116.1)]), (Za r116.2))
 else bif (decide (r17.1 = 2)) then
 Option.bind (Zh (Za r96.2) (IntKind.i64.wrap (index + 1))) fun r117 =>
 Option.bind (Zh (Za r117.2) 2) fun r118 =>
 some ((V.agg [(V.int .i64 r17.1), (V.inl Zf []), (V.inl Zf r96.1), (V.int .i64 (IntKind.i64.wrap (r117.1 * r118.1)))]), (Za r118.2))
 else bif (decide (r17.1 = 5)) then
 Option.bind (Zh (Za r96.2) 4) fun r119 =>
 bif (decide ((0 : Int) < index)) then
 Option.bind (Zh (Za r119.2) index) fun r120 =>
 some ((V.agg [(V.int .i64 r17.1), (V.inl Zf []), (V.inl Zf r96.1), (V.int .i64 (IntKind.i64.wrap (1 + r120.1)))]), (Za r120.2))
 else some ((V.agg [(V.int .i64 r17.1), (V.inl Zf []), (V.inl Zf r96.1), (V.int .i64 (IntKind.i64.wrap (1 + r119.1)))]), (Za r119.2))
 else bif (decide (r17.1 = 6)) then
 Option.bind (Zh (Za r96.2) 4) fun r121 =>
 bif (decide ((0 : Int) < index)) then
 Option.bind (Zh (Za r121.2) index) fun r122 =>
 some ((V.agg [(V.int .i64 r17.1), (V.inl Zf []), (V.inl Zf r96.1), (V.int .i64 (IntKind.i64.wrap (1 + r122.1)))]), (Za r122.2))
 else some ((V.agg [(V.int .i64 r17.1), (V.inl Zf []), (V.inl Zf r96.1), (V.int .i64 (IntKind.i64.wrap (1 + r121.1)))]), (Za r121.2))
 else bif (decide (r17.1 = 7)) then
 Option.bind (Zh (Za r96.2) 4) fun r123 =>
 bif (decide ((0 : Int) < index)) then
 Option.bind (Zh (Za r123.2) index) fun r124 =>
 some ((V.agg [(V.int .i64 r17.1), (V.inl Zf []), (V.inl Zf r96.1), (V.int .i64 (IntKind.i64.wrap (1 + r124.1)))]), (Za r124.2))
 else some ((V.agg [(V.int .i64 r17.1), (V.inl Zf []), (V.inl Zf r96.1), (V.int .i64 (IntKind.i64.wrap (1 + r123.1)))]), (Za r123.2))
 else some ((V.agg [(V.int .i64 r17.1), (V.inl Zf []), (V.inl Zf r96.1), (V.int .i64 0)]), (Za r96.2))
 else bif (decide (r17.1 = 4)) then
 Option.bind (Zh (Za r96.2) 2) fun r125 =>
 some ((V.agg [(V.int .i64 r17.1), (V.inl Zf []), (V.inl Zf r96.1), (V.int .i64 r125.1)]), (Za r125.2))
 else bif (decide (r17.1 = 2)) then
 Option.bind (Zh (Za r96.2) (IntKind.i64.wrap (index + 1))) fun r126 =>
 Option.bind (Zh (Za r126.2) 2) fun r127 =>
 some ((V.agg [(V.int .i64 r17.1), (V.inl Zf []), (V.inl Zf r96.1), (V.int .i64 (IntKind.i64.wrap (r126.1 * r127.1)))]), (Za r127.2))
 else bif (decide (r17.1 = 5)) then
 Option.bind (Zh (Za r96.2) 4) fun r128 =>
 bif (decide ((0 : Int) < index)) then
 Option.bind (Zh (Za r128.2) index) fun r129 =>
 some ((V.agg [(V.int .i64 r17.1), (V.inl Zf []), (V.inl Zf r96.1), (V.int .i64 (IntKind.i64.wrap (1 + r129.1)))]), (Za r129.2))
 else some ((V.agg [(V.int .i64 r17.1), (V.inl Zf []), (V.inl Zf r96.1), (V.int .i64 (IntKind.i64.wrap (1 + r128.1)))]), (Za r128.2))
 else bif (decide (r17.1 = 6)) then
 Option.bind (Zh (Za r96.2) 4) fun r130 =>
 bif (decide ((0 : Int) < index)) then
 Option.bind (Zh (Za r130.2) index) fun r131 =>
 some ((V.agg [(V.int .i64 r17.1), (V.inl Zf []), (V.inl Zf r96.1), (V.int .i64 (IntKind.i64.wrap (1 + r131.1)))]), (Za r131.2))
 else some ((V.agg [(V.int .i64 r17.1), (V.inl Zf []), (V.inl Zf r96.1), (V.int .i64 (IntKind.i64.wrap (1 + r130.1)))]), (Za r130.2))
 else bif (decide (r17.1 = 7)) then
 Option.bind (Zh (Za r96.2) 4) fun r132 =>
 bif (decide ((0 : Int) < index)) then
 Option.bind (Zh (Za r132.2) index) fun r133 =>
 some ((V.agg [(V.int .i64 r17.1), (V.inl Zf []), (V.inl Zf r96.1), (V.int .i64 (IntKind.i64.wrap (1 + r133.1)))]), (Za r133.2))
 else some ((V.agg [(V.int .i64 r17.1), (V.inl Zf []), (V.inl Zf r96.1), (V.int .i64 (IntKind.i64.wrap (1 + r132.1)))]), (Za r132.2))
 else some ((V.agg [(V.int .i64 r17.1), (V.inl Zf []), (V.inl Zf r96.1), (V.int .i64 0)]), (Za r96.2))
 else bif (!(decide (r17.1 = 0))) then
 bif (!(decide (r17.1 = 4))) then
 bif (!(decide (r17.1 = 5))) then
 Option.bind (ZbF (Za r17.2)) fun r134 =>
 bif (decide (r17.1 = 4)) then
 Option.bind (Zh (Za r134.2) 2) fun r135 =>
 some ((V.agg [(V.int .i64 r17.1), (V.inl Zf r134.1), (V.inl Zf []), (V.int .i64 r135.1)]), (Za r135.2))
 else bif (decide (r17.1 = 2)) then
 Option.bind (Zh (Za r134.2) (IntKind.i64.wrap (index + 1))) fun r136 =>
 Option.bind (Zh (Za r136.2) 2) fun r137 =>
 some ((V.agg [(V.int .i64 r17.1), (V.inl Zf r134.1), (V.inl Zf []), (V.int .i64 (IntKind.i64.wrap (r136.1 * r137.1)))]), (Za r137.2))
 else bif (decide (r17.1 = 5)) then
 Option.bind (Zh (Za r134.2) 4) fun r138 =>
 bif (decide ((0 : Int) < index)) then
 Option.bind (Zh (Za r138.2) index) fun r139 =>
 some ((V.agg [(V.int .i64 r17.1), (V.inl Zf r134.1), (V.inl Zf []), (V.int .i64 (IntKind.i64.wrap (1 + r139.1)))]), (Za r139.2))
 else some ((V.agg [(V.int .i64 r17.1), (V.inl Zf r134.1), (V.inl Zf []), (V.int .i64 (IntKind.i64.wrap (1 + r138.1)))]), (Za r138.2))
 else bif (decide (r17.1 = 6)) then
 Option.bind (Zh (Za r134.2) 4) fun r140 =>
 bif (decide ((0 : Int) < index)) then
 Option.bind (Zh (Za r140.2) index) fun r141 =>
 some ((V.agg [(V.int .i64 r17.1), (V.inl Zf r134.1), (V.inl Zf []), (V.int .i64 (IntKind.i64.wrap (1 + r141.1)))]), (Za r141.2))
 else some ((V.agg [(V.int .i64 r17.1), (V.inl Zf r134.1), (V.inl Zf []), (V.int .i64 (IntKind.i64.wrap (1 + r140.1)))]), (Za r140.2))
 else bif (decide (r17.1 = 7)) then
 Option.bind (Zh (Za r134.2) 4) fun r142 =>
 bif (decide ((0 : Int) < index)) then
 Option.bind (Zh (Za r142.2) index) fun r143 =>
 some ((V.agg [(V.int .i64 r17.1), (V.inl Zf r134.1), (V.inl Zf []), (V.int .i64 (IntKind.i64.wrap (1 + r143.1)))]), (Za r143.2))
 else some ((V.agg [(V.int .i64 r17.1), (V.inl Zf r134.1), (V.inl Zf []), (V.int .i64 (IntKind.i64.wrap (1 + r142.1)))]), (Za r142.2))
 else some ((V.agg [(V.int .i64 r17.1), (V.inl Zf r134.1), (V.inl Zf []), (V.int .i64 0)]), (Za r134.2))
 else bif (decide (r17.1 = 4)) then
 Option.bind (Zh (Za r17.2) 2) fun r144 =>
 some ((V.agg [(V.int .i64 r17.1), (V.inl Zf []), (V.inl Zf []), (V.int .i64 r144.1)]), (Za r144.2))
 else bif (decide (r17.1 = 2)) then
 Option.bind (Zh (Za r17.2) (IntKind.i64.wrap (index + 1))) fun r145 =>
 Option.bind (Zh (Za r145.2) 2) fun r146 =>
 some ((V.agg [(V.int .i64 r17.1), (V.inl Zf []), (V.inl Zf []), (V.int .i64 (IntKind.i64.wrap (r145.1 * r146.1)))]), (Za r146.2))
 else bif (decide (r17.1 = 5)) then
 Option.bind (Zh (Za r17.2) 4) fun r147 =>
 bif (decide ((0 : Int) < index)) then
 Option.bind (Zh (Za r147.2) index) fun r148 =>
 some ((V.agg [(V.int .i64 r17.1), (V.inl Zf []), (V.inl Zf []), (V.int .i64 (IntKind.i64.wrap (1 + r148.1)))]), (Za r148.2))
 else some ((V.agg [(V.int .i64 r17.1), (V.inl Zf []), (V.inl Zf []), (V.int .i64 (IntKind.i64.wrap (1 + r147.1)))]), (Za r147.2))
 else bif (decide (r17.1 = 6)) then
 Option.bind (Zh (Za r17.2) 4) fun r149 =>
 bif (decide ((0 : Int) < index)) then
 Option.bind (Zh (Za r149.2) index) fun r150 =>
 some ((V.agg [(V.int .i64 r17.1), (V.inl Zf []), (V.inl Zf []), (V.int .i64 (IntKind.i64.wrap (1 + r150.1)))]), (Za r150.2))
 else some ((V.agg [(V.int .i64 r17.1), (V.inl Zf []), (V.inl Zf []), (V.int .i64 (IntKind.i64.wrap (1 + r149.1)))]), (Za r149.2))
 else bif (decide (r17.1 = 7)) then
 Option.bind (Zh (Za r17.2) 4) fun r151 =>
 bif (decide ((0 : Int) < index)) then
 Option.bind (Zh (Za r151.2) index) fun r152 =>
 some ((V.agg [(V.int .i64 r17.1), (V.inl Zf []), (V.inl Zf []), (V.int .i64 (IntKind.i64.wrap (1 + r152.1)))]), (Za r152.2))
 else some ((V.agg [(V.int .i64 r17.1), (V.inl Zf []), (V.inl Zf []), (V.int .i64 (IntKind.i64.wrap (1 + r151.1)))]), (Za r151.2))
 else some ((V.agg [(V.int .i64 r17.1), (V.inl Zf []), (V.inl Zf []), (V.int .i64 0)]), (Za r17.2))
 else bif (decide (r17.1 = 4)) then
 Option.bind (Zh (Za r17.2) 2) fun r153 =>
 some ((V.agg [(V.int .i64 r17.1), (V.inl Zf []), (V.inl Zf []), (V.int .i64 r153.1)]), (Za r153.2))
 else bif (decide (r17.1 = 2)) then
 Option.bind (Zh (Za r17.2) (IntKind.i64.wrap (index + 1))) fun r154 =>
 Option.bind (Zh (Za r154.2) 2) fun r155 =>
 some ((V.agg [(V.int .i64 r17.1), (V.inl Zf []), (V.inl Zf []), (V.int .i64 (IntKind.i64.wrap (r154.1 * r155.1)))]), (Za r155.2))
 else bif (decide (r17.1 = 5)) then
 Option.bind (Zh (Za r17.2) 4) fun r156 =>
 bif (decide ((0 : Int) < index)) then
 Option.bind (Zh (Za r156.2) index) fun r157 =>
 some ((V.agg [(V.int .i64 r17.1), (V.inl Zf []), (V.inl Zf []), (V.int .i64 (IntKind.i64.wrap (1 + r157.1)))]), (Za r157.2))
 else some ((V.agg [(V.int .i64 r17.1), (V.inl Zf []), (V.inl Zf []), (V.int .i64 (IntKind.i64.wrap (1 + r156.1)))]), (Za r156.2))
 else bif (decide (r17.1 = 6)) then
 Option.bind (Zh (Za r17.2) 4) fun r158 =>
 bif (decide ((0 : Int) < index)) then
 Option.bind (Zh (Za r158.2) index) fun r159 =>
 some ((V.agg [(V.int .i64 r17.1), (V.inl Zf []), (V.inl Zf []), (V.int .i64 (IntKind.i64.wrap (1 + r159.1)))]), (Za r159.2))
 else some ((V.agg [(V.int .i64 r17.1), (V.inl Zf []), (V.inl Zf []), (V.int .i64 (IntKind.i64.wrap (1 + r158.1)))]), (Za r158.2))
 else bif (decide (r17.1 = 7)) then
 Option.bind (Zh (Za r17.2) 4) fun r160 =>
 bif (decide ((0 : Int) < index)) then
 Option.bind (Zh (Za r160.2) index) fun r161 =>
 some ((V.agg [(V.int .i64 r17.1), (V.inl Zf []), (V.inl Zf []), (V.int .i64 (IntKind.i64.wrap (1 + r161.1)))]), (Za r161.2))
 else some ((V.agg [(V.int .i64 r17.1), (V.inl Zf []), (V.inl Zf []), (V.int .i64 (IntKind.i64.wrap (1 + r160.1)))]), (Za r160.2))
 else some ((V.agg [(V.int .i64 r17.1), (V.inl Zf []), (V.inl Zf []), (V.int .i64 0)]), (Za r17.2))
 else bif (decide (r17.1 = 4)) then
 Option.bind (Zh (Za r17.2) 2) fun r162 =>
 some ((V.agg [(V.int .i64 r17.1), (V.inl Zf []), (V.inl Zf []), (V.int .i64 r162.1)]), (Za r162.2))
 else bif (decide (r17.1 = 2)) then
 Option.bind (Zh (Za r17.2) (IntKind.i64.wrap (index + 1))) fun r163 =>
 Option.bind (Zh (Za r163.2) 2) fun r164 =>
 some ((V.agg [(V.int .i64 r17.1), (V.inl Zf []), (V.inl Zf []), (V.int .i64 (IntKind.i64.wrap (r163.1 * r164.1)))]), (Za r164.2))
 else bif (decide (r17.1 = 5)) then
 Option.bind (Zh (Za r17.2) 4) fun r165 =>
 bif (decide ((0 : Int) < index)) then
 Option.bind (Zh (Za r165.2) index) fun r166 =>
 some ((V.agg [(V.int .i64 r17.1), (V.inl Zf []), (V.inl Zf []), (V.int .i64 (IntKind.i64.wrap (1 + r166.1)))]), (Za r166.2))
 else some ((V.agg [(V.int .i64 r17.1), (V.inl Zf []), (V.inl Zf []), (V.int .i64 (IntKind.i64.wrap (1 + r165.1)))]), (Za r165.2))
 else bif (decide (r17.1 = 6)) then
 Option.bind (Zh (Za r17.2) 4) fun r167 =>
 bif (decide ((0 : Int) < index)) then
 Option.bind (Zh (Za r167.2) index) fun r168 =>
 some ((V.agg [(V.int .i64 r17.1), (V.inl Zf []), (V.inl Zf []), (V.int .i64 (IntKind.i64.wrap (1 + r168.1)))]), (Za r168.2))
 else some ((V.agg [(V.int .i64 r17.1), (V.inl Zf []), (V.inl Zf []), (V.int .i64 (IntKind.i64.wrap (1 + r167.1)))]), (Za r167.2))
 else bif (decide (r17.1 = 7)) then
 Option.bind (Zh (Za r17.2) 4) fun r169 =>
 bif (decide ((0 : Int) < index)) then
 Option.bind (Zh (Za r169.2) index) fun r170 =>
 some ((V.agg [(V.int .i64 r17.1), (V.inl Zf []), (V.inl Zf []), (V.int .i64 (IntKind.i64.wrap (1 + r170.1)))]), (Za r170.2))
 else some ((V.agg [(V.int .i64 r17.1), (V.inl Zf []), (V.inl Zf []), (V.int .i64 (IntKind.i64.wrap (1 + r169.1)))]), (Za r169.2))
 else some ((V.agg [(V.int .i64 r17.1), (V.inl Zf []), (V.inl Zf []), (V.int .i64 0)]), (Za r17.2))
def ZaI (c : V) (n : Int) : Option (Bool × V) :=
 Option.bind (Zh (Za c) n) fun r172 =>
 some ((decide (r172.1 = 0)), (Za r172.2))
def Za0 (c : V) (term_ : Int) : Option (V × V) :=
 Option.bind (Zh (Za c) 3) fun r15 =>
 Option.bind (Zh (Za r15.2) 5) fun r16 =>
 Option.bind (spec_l2op (Za r16.2) 5) fun r171 =>
 Option.bind (ZaI (Za r171.2) 5) fun r173 =>
 bif r173.1 then
 some ((V.agg [(V.int .i64 term_), (V.int .i64 (-1)), (V.int .i64 0), (V.int .i64 0), (V.inl Zf []), (V.inl Zf []), (V.int .i64 0)]), (Za r173.2))
 else some ((V.agg [(V.int .i64 term_), (V.int .i64 r15.1), (V.int .i64 (IntKind.i64.wrap (1 + r16.1))), (V.int .i64 (gi r171.1 0)), (V.inl Zf (gl r171.1 1)), (V.inl Zf (gl r171.1 2)), (V.int .i64 (gi r171.1 3))]), (Za r173.2))
def Zbx : Nat → Int → Int → Int → V → List V → Option (V × List V)
 | 0, _, _, _, _, _ => none
 | k_ + 1, n1, t6, i7, b0, r1 =>
 bif (decide (i7 < n1)) then
 Option.bind (Zh (Za b0) 4) fun r175 =>
 Option.bind (Za0 (Za r175.2) (IntKind.i64.wrap (t6 + (IntKind.i64.wrap (r175.1.tdiv 3))))) fun r176 =>
 bif ((Z1 (r1.length + 1) 88) && true) then
 Zbx k_ n1 (IntKind.i64.wrap (t6 + (IntKind.i64.wrap (r175.1.tdiv 3)))) (IntKind.i64.wrap (i7 + 1)) (Za r176.2) (r1 ++ [(Zp r176.1)])
 else none
 else some ((Za b0), r1)
def Zdk (c : V) (n : Int) : Option (List V × V) :=
 Option.bind (Zbx ((n - 0).toNat + 1) n 1 0 (Za c) []) fun r177 =>
 some (r177.2, (Za r177.1))
def Zc1 (n : V) (ZQ : Int) : Option (Int) :=
 bif (decide (ZQ < 1)) then
 some 0
 else bif (decide ((((gl n 3).length : Nat) : Int) < ZQ)) then
 some 0
 else bif (Zq (IntKind.i64.wrap (ZQ - 1)) ((gl n 3).length)) then
 some (gi (rd (gl n 3) ((IntKind.i64.wrap (ZQ - 1)).toNat)) 0)
 else none
def Zbd : Nat → Int → Int → Int → V → V → V → List V → List V → List V → List V → List V → List V → List V → List V → Option (V × V × V × List V × List V × List V × List V × List V × List V × List V × List V)
 | 0, _, _, _, _, _, _, _, _, _, _, _, _, _, _ => none
 | k_ + 1, servers1, k6, i7, b0, b1, b2, r3, r4, r5, r6, r7, r8, r9, r10 =>
 bif (decide (i7 < servers1)) then
 Option.bind (Zh (Za b0) (IntKind.i64.wrap (k6 + 1))) fun r201 =>
 bif (Zq i7 r10.length) then
 bif (Zq i7 ((r10.set (0 + i7.toNat) (V.int .i64 r201.1)).length)) then
 bif (Zq i7 r9.length) then
 Option.bind (ZaI (Za r201.2) 3) fun r202 =>
 bif r202.1 then
 Option.bind (Zh (Za r202.2) (IntKind.i64.wrap (k6 + 1))) fun r203 =>
 bif (Zq i7 ((r9.set (0 + i7.toNat) (V.int .i64 (IntKind.i64.wrap ((gi (rd (r10.set (0 + i7.toNat) (V.int .i64 r201.1)) (0 + i7.toNat)) 0) + 1)))).length)) then
 Zbd k_ servers1 k6 (IntKind.i64.wrap (i7 + 1)) (Za r203.2) (V.agg [(V.int .i64 (gi b1 0)), (V.int .i64 (gi b1 1)), (V.int .i64 (gi b1 2)), (V.sl 3 Zb 0 none), (V.int .i64 (gi b1 4)), (V.int .i64 (gi b1 5)), (V.int .i64 (gi b1 6)), (V.int .i64 (gi b1 7)), (V.sl 4 Zi 0 none), (V.sl 5 Ze 0 none), (V.sl 6 Ze 0 none)]) (V.agg [(V.int .i64 (gi b2 0)), (V.int .i64 (gi b2 1)), (V.int .i64 (gi b2 2)), (V.sl 7 Zb 0 none), (V.int .i64 (gi b2 4)), (V.int .i64 (gi b2 5)), (V.int .i64 (gi b2 6)), (V.int .i64 (gi b2 7)), (V.sl 8 Zi 0 none), (V.sl 9 Ze 0 none), (V.sl 10 Ze 0 none)]) r3 r4 r5 r6 r7 r8 ((r9.set (0 + i7.toNat) (V.int .i64 (IntKind.i64.wrap ((gi (rd (r10.set (0 + i7.toNat) (V.int .i64 r201.1)) (0 + i7.toNat)) 0) + 1)))).set (0 + i7.toNat) (V.int .i64 (IntKind.i64.wrap (1 + r203.1)))) (r10.set (0 + i7.toNat) (V.int .i64 r201.1))
 else none
 else Zbd k_ servers1 k6 (IntKind.i64.wrap (i7 + 1)) (Za r202.2) (V.agg [(V.int .i64 (gi b1 0)), (V.int .i64 (gi b1 1)), (V.int .i64 (gi b1 2)), (V.sl 3 Zb 0 none), (V.int .i64 (gi b1 4)), (V.int .i64 (gi b1 5)), (V.int .i64 (gi b1 6)), (V.int .i64 (gi b1 7)), (V.sl 4 Zi 0 none), (V.sl 5 Ze 0 none), (V.sl 6 Ze 0 none)]) (V.agg [(V.int .i64 (gi b2 0)), (V.int .i64 (gi b2 1)), (V.int .i64 (gi b2 2)), (V.sl 7 Zb 0 none), (V.int .i64 (gi b2 4)), (V.int .i64 (gi b2 5)), (V.int .i64 (gi b2 6)), (V.int .i64 (gi b2 7)), (V.sl 8 Zi 0 none), (V.sl 9 Ze 0 none), (V.sl 10 Ze 0 none)]) r3 r4 r5 r6 r7 r8 (r9.set (0 + i7.toNat) (V.int .i64 (IntKind.i64.wrap ((gi (rd (r10.set (0 + i7.toNat) (V.int .i64 r201.1)) (0 + i7.toNat)) 0) + 1)))) (r10.set (0 + i7.toNat) (V.int .i64 r201.1))
 else none
 else none
 else none
 else some ((Za b0), (V.agg [(V.int .i64 (gi b1 0)), (V.int .i64 (gi b1 1)), (V.int .i64 (gi b1 2)), (V.sl 3 Zb 0 none), (V.int .i64 (gi b1 4)), (V.int .i64 (gi b1 5)), (V.int .i64 (gi b1 6)), (V.int .i64 (gi b1 7)), (V.sl 4 Zi 0 none), (V.sl 5 Ze 0 none), (V.sl 6 Ze 0 none)]), (V.agg [(V.int .i64 (gi b2 0)), (V.int .i64 (gi b2 1)), (V.int .i64 (gi b2 2)), (V.sl 7 Zb 0 none), (V.int .i64 (gi b2 4)), (V.int .i64 (gi b2 5)), (V.int .i64 (gi b2 6)), (V.int .i64 (gi b2 7)), (V.sl 8 Zi 0 none), (V.sl 9 Ze 0 none), (V.sl 10 Ze 0 none)]), r3, r4, r5, r6, r7, r8, r9, r10)
def Zd6 (c : V) (servers : Int) : Option (V × V) :=
 Option.bind (Zh (Za c) servers) fun r188 =>
 Option.bind (spec_l4new r188.1 servers) fun r189 =>
 Option.bind (Zh (Za r188.2) 8) fun r190 =>
 Option.bind (Zdk (Za r190.2) r190.1) fun r191 =>
 Option.bind (Zc1 (V.agg [(V.int .i64 (gi r189 0)), (V.int .i64 (gi r189 1)), (V.int .i64 (gi r189 2)), (V.inl Zb r191.1), (V.int .i64 (gi r189 4)), (V.int .i64 (gi r189 5)), (V.int .i64 (gi r189 6)), (V.int .i64 (gi r189 7)), (V.inl Zi (gl r189 8)), (V.inl Ze (gl r189 9)), (V.inl Ze (gl r189 10))]) r190.1) fun r192 =>
 Option.bind (Zh (Za r191.2) 3) fun r193 =>
 Option.bind (Zh (Za r193.2) (IntKind.i64.wrap (r190.1 + 1))) fun r194 =>
 Option.bind (Zh (Za r194.2) 9) fun r195 =>
 Option.bind (Zh (Za r195.2) (IntKind.i64.wrap (servers + 1))) fun r196 =>
 Option.bind (Zh (Za r196.2) (IntKind.i64.wrap (servers + 1))) fun r197 =>
 bif (decide ((IntKind.i64.wrap (r192 + r193.1)) < 1)) then
 some ((V.agg [(V.int .i64 (gi r189 0)), (V.int .i64 (IntKind.i64.wrap (r192 + r193.1))), (V.int .i64 (-1)), (V.inl Zb r191.1), (V.int .i64 r194.1), (V.int .i64 (gi r189 5)), (V.int .i64 (IntKind.i64.wrap (r197.1 - 1))), (V.int .i64 r195.1), (V.inl Zi (gl r189 8)), (V.inl Ze (gl r189 9)), (V.inl Ze (gl r189 10))]), (Za r197.2))
 else Option.bind (Zh (Za r197.2) 4) fun r198 =>
 bif (decide (r198.1 = 0)) then
 bif (Zq (gi r189 0) ((gl r189 8).length)) then
 Option.bind (ZaI (Za r198.2) 2) fun r199 =>
 bif r199.1 then
 Option.bind (Zh (Za r199.2) servers) fun r200 =>
 bif (Zq r200.1 (((gl r189 8).set (0 + ((gi r189 0).toNat)) (V.bool true)).length)) then
 some ((V.agg [(V.int .i64 (gi r189 0)), (V.int .i64 (IntKind.i64.wrap (r192 + r193.1))), (V.int .i64 (gi r189 0)), (V.inl Zb r191.1), (V.int .i64 r194.1), (V.int .i64 1), (V.int .i64 (IntKind.i64.wrap (r197.1 - 1))), (V.int .i64 r195.1), (V.inl Zi (((gl r189 8).set (0 + ((gi r189 0).toNat)) (V.bool true)).set (0 + r200.1.toNat) (V.bool true))), (V.inl Ze (gl r189 9)), (V.inl Ze (gl r189 10))]), (Za r200.2))
 else none
 else some ((V.agg [(V.int .i64 (gi r189 0)), (V.int .i64 (IntKind.i64.wrap (r192 + r193.1))), (V.int .i64 (gi r189 0)), (V.inl Zb r191.1), (V.int .i64 r194.1), (V.int .i64 1), (V.int .i64 (IntKind.i64.wrap (r197.1 - 1))), (V.int .i64 r195.1), (V.inl Zi ((gl r189 8).set (0 + ((gi r189 0).toNat)) (V.bool true))), (V.inl Ze (gl r189 9)), (V.inl Ze (gl r189 10))]), (Za r199.2))
 else none
 else bif (decide (r198.1 = 1)) then
 bif (Zq (gi r189 0) ((gl r189 8).length)) then
 Option.bind (Zbd ((servers - 0).toNat + 1) servers r190.1 0 (Za r198.2) (V.agg [(V.int .i64 0), (V.int .i64 0), (V.int .i64 0), (V.sl 3 Zb 0 none), (V.int .i64 0), (V.int .i64 0), (V.int .i64 0), (V.int .i64 0), (V.sl 4 Zi 0 none), (V.sl 5 Ze 0 none), (V.sl 6 Ze 0 none)]) (V.agg [(V.int .i64 (gi r189 0)), (V.int .i64 (IntKind.i64.wrap (r192 + r193.1))), (V.int .i64 (gi r189 0)), (V.sl 7 Zb 0 none), (V.int .i64 r194.1), (V.int .i64 2), (V.int .i64 (gi r189 0)), (V.int .i64 r195.1), (V.sl 8 Zi 0 none), (V.sl 9 Ze 0 none), (V.sl 10 Ze 0 none)]) [] [] [] [] r191.1 ((gl r189 8).set (0 + ((gi r189 0).toNat)) (V.bool true)) (gl r189 9) (gl r189 10)) fun r204 =>
 some ((V.agg [(V.int .i64 (gi r204.2.2.1 0)), (V.int .i64 (gi r204.2.2.1 1)), (V.int .i64 (gi r204.2.2.1 2)), (V.inl Zb r204.2.2.2.2.2.2.2.1), (V.int .i64 (gi r204.2.2.1 4)), (V.int .i64 (gi r204.2.2.1 5)), (V.int .i64 (gi r204.2.2.1 6)), (V.int .i64 (gi r204.2.2.1 7)), (V.inl Zi r204.2.2.2.2.2.2.2.2.1), (V.inl Ze r204.2.2.2.2.2.2.2.2.2.1), (V.inl Ze r204.2.2.2.2.2.2.2.2.2.2)]), (Za r204.1))
 else none
 else bif (decide (r198.1 = 2)) then
 bif (Zq (gi r189 0) ((gl r189 8).length)) then
 Option.bind (Zbd ((servers - 0).toNat + 1) servers r190.1 0 (Za r198.2) (V.agg [(V.int .i64 0), (V.int .i64 0), (V.int .i64 0), (V.sl 3 Zb 0 none), (V.int .i64 0), (V.int .i64 0), (V.int .i64 0), (V.int .i64 0), (V.sl 4 Zi 0 none), (V.sl 5 Ze 0 none), (V.sl 6 Ze 0 none)]) (V.agg [(V.int .i64 (gi r189 0)), (V.int .i64 (IntKind.i64.wrap (r192 + r193.1))), (V.int .i64 (gi r189 0)), (V.sl 7 Zb 0 none), (V.int .i64 r194.1), (V.int .i64 2), (V.int .i64 (gi r189 0)), (V.int .i64 r195.1), (V.sl 8 Zi 0 none), (V.sl 9 Ze 0 none), (V.sl 10 Ze 0 none)]) [] [] [] [] r191.1 ((gl r189 8).set (0 + ((gi r189 0).toNat)) (V.bool true)) (gl r189 9) (gl r189 10)) fun r205 =>
 some ((V.agg [(V.int .i64 (gi r205.2.2.1 0)), (V.int .i64 (gi r205.2.2.1 1)), (V.int .i64 (gi r205.2.2.1 2)), (V.inl Zb r205.2.2.2.2.2.2.2.1), (V.int .i64 (gi r205.2.2.1 4)), (V.int .i64 (gi r205.2.2.1 5)), (V.int .i64 (gi r205.2.2.1 6)), (V.int .i64 (gi r205.2.2.1 7)), (V.inl Zi r205.2.2.2.2.2.2.2.2.1), (V.inl Ze r205.2.2.2.2.2.2.2.2.2.1), (V.inl Ze r205.2.2.2.2.2.2.2.2.2.2)]), (Za r205.1))
 else none
 else some ((V.agg [(V.int .i64 (gi r189 0)), (V.int .i64 (IntKind.i64.wrap (r192 + r193.1))), (V.int .i64 (IntKind.i64.wrap (r196.1 - 1))), (V.inl Zb r191.1), (V.int .i64 r194.1), (V.int .i64 (gi r189 5)), (V.int .i64 (IntKind.i64.wrap (r197.1 - 1))), (V.int .i64 r195.1), (V.inl Zi (gl r189 8)), (V.inl Ze (gl r189 9)), (V.inl Ze (gl r189 10))]), (Za r198.2))
def Zce : Nat → V → V → V → List V → List V → List V → List V → List V → List V → List V → List V → Option (V × V × V × List V × List V × List V × List V × List V × List V × List V × List V)
 | 0, _, _, _, _, _, _, _, _, _, _, _ => none
 | k_ + 1, b0, b1, b2, r3, r4, r5, r6, r7, r8, r9, r10 =>
 Option.bind (Zh (Za b0) 2) fun r228 =>
 bif (decide (((r7.length : Nat) : Int) < (IntKind.i64.wrap (200 + (IntKind.i64.wrap ((IntKind.i64.wrap (r228.1 * 400)).tdiv 2)))))) then
 bif ((Z1 (r7.length + 1) 88) && true) then
 Zce k_ (Za r228.2) (V.agg [(V.int .i64 (gi b1 0)), (V.int .i64 (gi b1 1)), (V.int .i64 (gi b1 2)), (V.sl 3 Zb 0 none), (V.int .i64 (gi b1 4)), (V.int .i64 (gi b1 5)), (V.int .i64 (gi b1 6)), (V.int .i64 (gi b1 7)), (V.sl 4 Zi 0 none), (V.sl 5 Ze 0 none), (V.sl 6 Ze 0 none)]) (V.agg [(V.int .i64 (gi b2 0)), (V.int .i64 (gi b2 1)), (V.int .i64 (gi b2 2)), (V.sl 7 Zb 0 none), (V.int .i64 (gi b2 4)), (V.int .i64 (gi b2 5)), (V.int .i64 (gi b2 6)), (V.int .i64 (gi b2 7)), (V.sl 8 Zi 0 none), (V.sl 9 Ze 0 none), (V.sl 10 Ze 0 none)]) r3 r4 r5 r6 (r7 ++ [(V.agg [(V.int .i64 (gi b2 1)), (V.int .i64 (-1)), (V.int .i64 0), (V.int .i64 0), (V.inl Zf []), (V.inl Zf []), (V.int .i64 0)])]) r8 r9 r10
 else none
 else some ((Za r228.2), (V.agg [(V.int .i64 (gi b1 0)), (V.int .i64 (gi b1 1)), (V.int .i64 (gi b1 2)), (V.sl 3 Zb 0 none), (V.int .i64 (gi b1 4)), (V.int .i64 (gi b1 5)), (V.int .i64 (gi b1 6)), (V.int .i64 (gi b1 7)), (V.sl 4 Zi 0 none), (V.sl 5 Ze 0 none), (V.sl 6 Ze 0 none)]), (V.agg [(V.int .i64 (gi b2 0)), (V.int .i64 (gi b2 1)), (V.int .i64 (gi b2 2)), (V.sl 7 Zb 0 none), (V.int .i64 (gi b2 4)), (V.int .i64 (gi b2 5)), (V.int .i64 (gi b2 6)), (V.int .i64 (gi b2 7)), (V.sl 8 Zi 0 none), (V.sl 9 Ze 0 none), (V.sl 10 Ze 0 none)]), r3, r4, r5, r6, r7, r8, r9, r10)
def Zd7 (c : V) (servers : Int) : Option (V × V) :=
 Option.bind (Zd6 (Za c) servers) fun r217 =>
 Option.bind (ZaI (Za r217.2) 8) fun r218 =>
 bif (!r218.1) then
 some ((Zc r217.1), (Za r218.2))
 else Option.bind (Zh (Za r218.2) 10) fun r219 =>
 bif (decide (r219.1 = 0)) then
 Option.bind (Z4 (Za r219.2) [(V.int .i64 (-1)), (V.int .i64 servers), (V.int .i64 0)]) fun r220 =>
 some ((V.agg [(V.int .i64 r220.1), (V.int .i64 (gi r217.1 1)), (V.int .i64 (gi r217.1 2)), (V.inl Zb (gl r217.1 3)), (V.int .i64 (gi r217.1 4)), (V.int .i64 (gi r217.1 5)), (V.int .i64 (gi r217.1 6)), (V.int .i64 (gi r217.1 7)), (V.inl Zi (gl r217.1 8)), (V.inl Ze (gl r217.1 9)), (V.inl Ze (gl r217.1 10))]), (Za r220.2))
 else bif (decide (r219.1 = 1)) then
 Option.bind (Z4 (Za r219.2) [(V.int .i64 (-1)), (V.int .i64 0), (V.int .i64 100000), (V.int .i64 100001)]) fun r221 =>
 some ((V.agg [(V.int .i64 (gi r217.1 0)), (V.int .i64 r221.1), (V.int .i64 (gi r217.1 2)), (V.inl Zb (gl r217.1 3)), (V.int .i64 (gi r217.1 4)), (V.int .i64 (gi r217.1 5)), (V.int .i64 (gi r217.1 6)), (V.int .i64 (gi r217.1 7)), (V.inl Zi (gl r217.1 8)), (V.inl Ze (gl r217.1 9)), (V.inl Ze (gl r217.1 10))]), (Za r221.2))
 else bif (decide (r219.1 = 2)) then
 Option.bind (Z4 (Za r219.2) [(V.int .i64 (-2)), (V.int .i64 servers), (V.int .i64 0)]) fun r222 =>
 some ((V.agg [(V.int .i64 (gi r217.1 0)), (V.int .i64 (gi r217.1 1)), (V.int .i64 r222.1), (V.inl Zb (gl r217.1 3)), (V.int .i64 (gi r217.1 4)), (V.int .i64 (gi r217.1 5)), (V.int .i64 (gi r217.1 6)), (V.int .i64 (gi r217.1 7)), (V.inl Zi (gl r217.1 8)), (V.inl Ze (gl r217.1 9)), (V.inl Ze (gl r217.1 10))]), (Za r222.2))
 else bif (decide (r219.1 = 3)) then
 Option.bind (Z4 (Za r219.2) [(V.int .i64 (-1)), (V.int .i64 (IntKind.i64.wrap ((((gl r217.1 3).length : Nat) : Int) + 1)))]) fun r223 =>
 some ((V.agg [(V.int .i64 (gi r217.1 0)), (V.int .i64 (gi r217.1 1)), (V.int .i64 (gi r217.1 2)), (V.inl Zb (gl r217.1 3)), (V.int .i64 r223.1), (V.int .i64 (gi r217.1 5)), (V.int .i64 (gi r217.1 6)), (V.int .i64 (gi r217.1 7)), (V.inl Zi (gl r217.1 8)), (V.inl Ze (gl r217.1 9)), (V.inl Ze (gl r217.1 10))]), (Za r223.2))
 else bif (decide (r219.1 = 4)) then
 Option.bind (Zh (Za r219.2) 5) fun r224 =>
 some ((V.agg [(V.int .i64 (gi r217.1 0)), (V.int .i64 (gi r217.1 1)), (V.int .i64 (gi r217.1 2)), (V.inl Zb (gl r217.1 3)), (V.int .i64 (gi r217.1 4)), (V.int .i64 (IntKind.i64.wrap (r224.1 - 1))), (V.int .i64 (gi r217.1 6)), (V.int .i64 (gi r217.1 7)), (V.inl Zi (gl r217.1 8)), (V.inl Ze (gl r217.1 9)), (V.inl Ze (gl r217.1 10))]), (Za r224.2))
 else bif (decide (r219.1 = 5)) then
 Option.bind (Z4 (Za r219.2) [(V.int .i64 (-1)), (V.int .i64 20), (V.int .i64 21)]) fun r225 =>
 some ((V.agg [(V.int .i64 (gi r217.1 0)), (V.int .i64 (gi r217.1 1)), (V.int .i64 (gi r217.1 2)), (V.inl Zb (gl r217.1 3)), (V.int .i64 (gi r217.1 4)), (V.int .i64 (gi r217.1 5)), (V.int .i64 (gi r217.1 6)), (V.int .i64 r225.1), (V.inl Zi (gl r217.1 8)), (V.inl Ze (gl r217.1 9)), (V.inl Ze (gl r217.1 10))]), (Za r225.2))
 else bif (decide (r219.1 = 6)) then
 bif ((Z1 (((gl r217.1 8).length) + 1) 1) && true) then
 some ((V.agg [(V.int .i64 (gi r217.1 0)), (V.int .i64 (gi r217.1 1)), (V.int .i64 (gi r217.1 2)), (V.inl Zb (gl r217.1 3)), (V.int .i64 (gi r217.1 4)), (V.int .i64 (gi r217.1 5)), (V.int .i64 (gi r217.1 6)), (V.int .i64 (gi r217.1 7)), (V.inl Zi ((gl r217.1 8) ++ [(V.bool true)])), (V.inl Ze (gl r217.1 9)), (V.inl Ze (gl r217.1 10))]), (Za r219.2))
 else none
 else bif (decide (r219.1 = 7)) then
 Option.bind (Z4 (Za r219.2) [(V.int .i64 0), (V.int .i64 (-1)), (V.int .i64 1), (V.int .i64 99)]) fun r226 =>
 bif (Zq 0 ((gl r217.1 9).length)) then
 some ((V.agg [(V.int .i64 (gi r217.1 0)), (V.int .i64 (gi r217.1 1)), (V.int .i64 (gi r217.1 2)), (V.inl Zb (gl r217.1 3)), (V.int .i64 (gi r217.1 4)), (V.int .i64 (gi r217.1 5)), (V.int .i64 (gi r217.1 6)), (V.int .i64 (gi r217.1 7)), (V.inl Zi (gl r217.1 8)), (V.inl Ze ((gl r217.1 9).set 0 (V.int .i64 r226.1))), (V.inl Ze (gl r217.1 10))]), (Za r226.2))
 else none
 else bif (decide (r219.1 = 8)) then
 Option.bind (Za0 (Za r219.2) 1) fun r227 =>
 bif ((Z1 (((gl r217.1 3).length) + 1) 88) && true) then
 some ((V.agg [(V.int .i64 (gi r217.1 0)), (V.int .i64 (gi r217.1 1)), (V.int .i64 (gi r217.1 2)), (V.inl Zb ((gl r217.1 3) ++ [(Zp r227.1)])), (V.int .i64 (gi r217.1 4)), (V.int .i64 (gi r217.1 5)), (V.int .i64 (gi r217.1 6)), (V.int .i64 (gi r217.1 7)), (V.inl Zi (gl r217.1 8)), (V.inl Ze (gl r217.1 9)), (V.inl Ze (gl r217.1 10))]), (Za r227.2))
 else none
 else Option.bind (Zce ((401 - (gl r217.1 3).length) + 1) (Za r219.2) (V.agg [(V.int .i64 0), (V.int .i64 0), (V.int .i64 0), (V.sl 3 Zb 0 none), (V.int .i64 0), (V.int .i64 0), (V.int .i64 0), (V.int .i64 0), (V.sl 4 Zi 0 none), (V.sl 5 Ze 0 none), (V.sl 6 Ze 0 none)]) (V.agg [(V.int .i64 (gi r217.1 0)), (V.int .i64 (gi r217.1 1)), (V.int .i64 (gi r217.1 2)), (V.sl 7 Zb 0 none), (V.int .i64 (gi r217.1 4)), (V.int .i64 (gi r217.1 5)), (V.int .i64 (gi r217.1 6)), (V.int .i64 (gi r217.1 7)), (V.sl 8 Zi 0 none), (V.sl 9 Ze 0 none), (V.sl 10 Ze 0 none)]) [] [] [] [] (gl r217.1 3) (gl r217.1 8) (gl r217.1 9) (gl r217.1 10)) fun r229 =>
 some ((V.agg [(V.int .i64 (gi r229.2.2.1 0)), (V.int .i64 (gi r229.2.2.1 1)), (V.int .i64 (gi r229.2.2.1 2)), (V.inl Zb r229.2.2.2.2.2.2.2.1), (V.int .i64 (gi r229.2.2.1 4)), (V.int .i64 (gi r229.2.2.1 5)), (V.int .i64 (gi r229.2.2.1 6)), (V.int .i64 (gi r229.2.2.1 7)), (V.inl Zi r229.2.2.2.2.2.2.2.2.1), (V.inl Ze r229.2.2.2.2.2.2.2.2.2.1), (V.inl Ze r229.2.2.2.2.2.2.2.2.2.2)]), (Za r229.1))
def Zar : Nat → Int → Int → Int → V → V → V → List V → List V → Option (V × V × V × List V × List V)
 | 0, _, _, _, _, _, _, _, _ => none
 | k_ + 1, n4, t5, i6, b0, b1, b2, r3, r4 =>
 bif (decide (i6 < n4)) then
 bif (decide (t5 < (gi b2 3))) then
 Option.bind (ZaI (Za b0) 3) fun r257 =>
 bif r257.1 then
 Option.bind (Za0 (Za r257.2) (IntKind.i64.wrap (t5 + 1))) fun r258 =>
 bif ((Z1 (r4.length + 1) 88) && true) then
 Zar k_ n4 (IntKind.i64.wrap (t5 + 1)) (IntKind.i64.wrap (i6 + 1)) (Za r258.2) (V.agg [(V.int .i64 (gi b1 0)), (V.int .i64 (gi b1 1)), (V.int .i64 (gi b1 2)), (V.int .i64 (gi b1 3)), (V.int .i64 (gi b1 4)), (V.int .i64 (gi b1 5)), (V.sl 3 Zb 0 none), (V.int .i64 (gi b1 7)), (V.bool (gb b1 8))]) (V.agg [(V.int .i64 (gi b2 0)), (V.int .i64 (gi b2 1)), (V.int .i64 (gi b2 2)), (V.int .i64 (gi b2 3)), (V.int .i64 (gi b2 4)), (V.int .i64 (gi b2 5)), (V.sl 4 Zb 0 none), (V.int .i64 (gi b2 7)), (V.bool (gb b2 8))]) r3 (r4 ++ [(Zp r258.1)])
 else none
 else Option.bind (Za0 (Za r257.2) t5) fun r259 =>
 bif ((Z1 (r4.length + 1) 88) && true) then
 Zar k_ n4 t5 (IntKind.i64.wrap (i6 + 1)) (Za r259.2) (V.agg [(V.int .i64 (gi b1 0)), (V.int .i64 (gi b1 1)), (V.int .i64 (gi b1 2)), (V.int .i64 (gi b1 3)), (V.int .i64 (gi b1 4)), (V.int .i64 (gi b1 5)), (V.sl 3 Zb 0 none), (V.int .i64 (gi b1 7)), (V.bool (gb b1 8))]) (V.agg [(V.int .i64 (gi b2 0)), (V.int .i64 (gi b2 1)), (V.int .i64 (gi b2 2)), (V.int .i64 (gi b2 3)), (V.int .i64 (gi b2 4)), (V.int .i64 (gi b2 5)), (V.sl 4 Zb 0 none), (V.int .i64 (gi b2 7)), (V.bool (gb b2 8))]) r3 (r4 ++ [(Zp r259.1)])
 else none
 else Option.bind (Za0 (Za b0) t5) fun r260 =>
 bif ((Z1 (r4.length + 1) 88) && true) then
 Zar k_ n4 t5 (IntKind.i64.wrap (i6 + 1)) (Za r260.2) (V.agg [(V.int .i64 (gi b1 0)), (V.int .i64 (gi b1 1)), (V.int .i64 (gi b1 2)), (V.int .i64 (gi b1 3)), (V.int .i64 (gi b1 4)), (V.int .i64 (gi b1 5)), (V.sl 3 Zb 0 none), (V.int .i64 (gi b1 7)), (V.bool (gb b1 8))]) (V.agg [(V.int .i64 (gi b2 0)), (V.int .i64 (gi b2 1)), (V.int .i64 (gi b2 2)), (V.int .i64 (gi b2 3)), (V.int .i64 (gi b2 4)), (V.int .i64 (gi b2 5)), (V.sl 4 Zb 0 none), (V.int .i64 (gi b2 7)), (V.bool (gb b2 8))]) r3 (r4 ++ [(Zp r260.1)])
 else none
 else some ((Za b0), (V.agg [(V.int .i64 (gi b1 0)), (V.int .i64 (gi b1 1)), (V.int .i64 (gi b1 2)), (V.int .i64 (gi b1 3)), (V.int .i64 (gi b1 4)), (V.int .i64 (gi b1 5)), (V.sl 3 Zb 0 none), (V.int .i64 (gi b1 7)), (V.bool (gb b1 8))]), (V.agg [(V.int .i64 (gi b2 0)), (V.int .i64 (gi b2 1)), (V.int .i64 (gi b2 2)), (V.int .i64 (gi b2 3)), (V.int .i64 (gi b2 4)), (V.int .i64 (gi b2 5)), (V.sl 4 Zb 0 none), (V.int .i64 (gi b2 7)), (V.bool (gb b2 8))]), r3, r4)
def Zd8 (c : V) : Option (V × V) :=
 Option.bind (Zh (Za c) 4) fun r249 =>
 Option.bind (Zh (Za r249.2) 3) fun r250 =>
 Option.bind (Zh (Za r250.2) 5) fun r251 =>
 Option.bind (Zh (Za r251.2) 2) fun r252 =>
 bif (decide (r249.1 = 0)) then
 Option.bind (Zh (Za r252.2) 7) fun r253 =>
 bif (decide ((0 : Int) < r253.1)) then
 Option.bind (Zh (Za r253.2) (IntKind.i64.wrap (1 + r251.1))) fun r254 =>
 bif (decide (r249.1 = 2)) then
 Option.bind (Zh (Za r254.2) 9) fun r255 =>
 Option.bind (Zh (Za r255.2) 5) fun r256 =>
 bif (decide ((IntKind.i64.wrap (1 + r254.1)) < 1)) then
 Option.bind (Zar ((r256.1 - 0).toNat + 1) r256.1 1 0 (Za r256.2) (V.agg [(V.int .i64 0), (V.int .i64 0), (V.int .i64 0), (V.int .i64 0), (V.int .i64 0), (V.int .i64 0), (V.sl 3 Zb 0 none), (V.int .i64 0), (V.bool false)]) (V.agg [(V.int .i64 r249.1), (V.int .i64 r250.1), (V.int .i64 ((IntKind.i64.wrap ((IntKind.i64.wrap (r250.1 + 1)) + r252.1)).tmod 3)), (V.int .i64 (IntKind.i64.wrap (1 + r251.1))), (V.int .i64 r253.1), (V.int .i64 (IntKind.i64.wrap (1 + r254.1))), (V.sl 4 Zb 0 none), (V.int .i64 r255.1), (V.bool false)]) [] []) fun r261 =>
 some ((V.agg [(V.int .i64 (gi r261.2.2.1 0)), (V.int .i64 (gi r261.2.2.1 1)), (V.int .i64 (gi r261.2.2.1 2)), (V.int .i64 (gi r261.2.2.1 3)), (V.int .i64 (gi r261.2.2.1 4)), (V.int .i64 (gi r261.2.2.1 5)), (V.inl Zb r261.2.2.2.2), (V.int .i64 (gi r261.2.2.1 7)), (V.bool (gb r261.2.2.1 8))]), (Za r261.1))
 else Option.bind (Zar ((r256.1 - 0).toNat + 1) r256.1 (IntKind.i64.wrap (1 + r254.1)) 0 (Za r256.2) (V.agg [(V.int .i64 0), (V.int .i64 0), (V.int .i64 0), (V.int .i64 0), (V.int .i64 0), (V.int .i64 0), (V.sl 3 Zb 0 none), (V.int .i64 0), (V.bool false)]) (V.agg [(V.int .i64 r249.1), (V.int .i64 r250.1), (V.int .i64 ((IntKind.i64.wrap ((IntKind.i64.wrap (r250.1 + 1)) + r252.1)).tmod 3)), (V.int .i64 (IntKind.i64.wrap (1 + r251.1))), (V.int .i64 r253.1), (V.int .i64 (IntKind.i64.wrap (1 + r254.1))), (V.sl 4 Zb 0 none), (V.int .i64 r255.1), (V.bool false)]) [] []) fun r262 =>
 some ((V.agg [(V.int .i64 (gi r262.2.2.1 0)), (V.int .i64 (gi r262.2.2.1 1)), (V.int .i64 (gi r262.2.2.1 2)), (V.int .i64 (gi r262.2.2.1 3)), (V.int .i64 (gi r262.2.2.1 4)), (V.int .i64 (gi r262.2.2.1 5)), (V.inl Zb r262.2.2.2.2), (V.int .i64 (gi r262.2.2.1 7)), (V.bool (gb r262.2.2.1 8))]), (Za r262.1))
 else some ((V.agg [(V.int .i64 r249.1), (V.int .i64 r250.1), (V.int .i64 ((IntKind.i64.wrap ((IntKind.i64.wrap (r250.1 + 1)) + r252.1)).tmod 3)), (V.int .i64 (IntKind.i64.wrap (1 + r251.1))), (V.int .i64 r253.1), (V.int .i64 (IntKind.i64.wrap (1 + r254.1))), (V.inl Zb []), (V.int .i64 0), (V.bool false)]), (Za r254.2))
 else bif (decide (r249.1 = 2)) then
 Option.bind (Zh (Za r253.2) 9) fun r263 =>
 Option.bind (Zh (Za r263.2) 5) fun r264 =>
 Option.bind (Zar ((r264.1 - 0).toNat + 1) r264.1 1 0 (Za r264.2) (V.agg [(V.int .i64 0), (V.int .i64 0), (V.int .i64 0), (V.int .i64 0), (V.int .i64 0), (V.int .i64 0), (V.sl 3 Zb 0 none), (V.int .i64 0), (V.bool false)]) (V.agg [(V.int .i64 r249.1), (V.int .i64 r250.1), (V.int .i64 ((IntKind.i64.wrap ((IntKind.i64.wrap (r250.1 + 1)) + r252.1)).tmod 3)), (V.int .i64 (IntKind.i64.wrap (1 + r251.1))), (V.int .i64 r253.1), (V.int .i64 0), (V.sl 4 Zb 0 none), (V.int .i64 r263.1), (V.bool false)]) [] []) fun r265 =>
 some ((V.agg [(V.int .i64 (gi r265.2.2.1 0)), (V.int .i64 (gi r265.2.2.1 1)), (V.int .i64 (gi r265.2.2.1 2)), (V.int .i64 (gi r265.2.2.1 3)), (V.int .i64 (gi r265.2.2.1 4)), (V.int .i64 (gi r265.2.2.1 5)), (V.inl Zb r265.2.2.2.2), (V.int .i64 (gi r265.2.2.1 7)), (V.bool (gb r265.2.2.1 8))]), (Za r265.1))
 else some ((V.agg [(V.int .i64 r249.1), (V.int .i64 r250.1), (V.int .i64 ((IntKind.i64.wrap ((IntKind.i64.wrap (r250.1 + 1)) + r252.1)).tmod 3)), (V.int .i64 (IntKind.i64.wrap (1 + r251.1))), (V.int .i64 r253.1), (V.int .i64 0), (V.inl Zb []), (V.int .i64 0), (V.bool false)]), (Za r253.2))
 else bif (decide (r249.1 = 2)) then
 Option.bind (Zh (Za r252.2) 7) fun r266 =>
 bif (decide ((0 : Int) < r266.1)) then
 Option.bind (Zh (Za r266.2) (IntKind.i64.wrap (1 + r251.1))) fun r267 =>
 bif (decide (r249.1 = 2)) then
 Option.bind (Zh (Za r267.2) 9) fun r268 =>
 Option.bind (Zh (Za r268.2) 5) fun r269 =>
 bif (decide ((IntKind.i64.wrap (1 + r267.1)) < 1)) then
 Option.bind (Zar ((r269.1 - 0).toNat + 1) r269.1 1 0 (Za r269.2) (V.agg [(V.int .i64 0), (V.int .i64 0), (V.int .i64 0), (V.int .i64 0), (V.int .i64 0), (V.int .i64 0), (V.sl 3 Zb 0 none), (V.int .i64 0), (V.bool false)]) (V.agg [(V.int .i64 r249.1), (V.int .i64 r250.1), (V.int .i64 ((IntKind.i64.wrap ((IntKind.i64.wrap (r250.1 + 1)) + r252.1)).tmod 3)), (V.int .i64 (IntKind.i64.wrap (1 + r251.1))), (V.int .i64 r266.1), (V.int .i64 (IntKind.i64.wrap (1 + r267.1))), (V.sl 4 Zb 0 none), (V.int .i64 r268.1), (V.bool false)]) [] []) fun r270 =>
 some ((V.agg [(V.int .i64 (gi r270.2.2.1 0)), (V.int .i64 (gi r270.2.2.1 1)), (V.int .i64 (gi r270.2.2.1 2)), (V.int .i64 (gi r270.2.2.1 3)), (V.int .i64 (gi r270.2.2.1 4)), (V.int .i64 (gi r270.2.2.1 5)), (V.inl Zb r270.2.2.2.2), (V.int .i64 (gi r270.2.2.1 7)), (V.bool (gb r270.2.2.1 8))]), (Za r270.1))
 else Option.bind (Zar ((r269.1 - 0).toNat + 1) r269.1 (IntKind.i64.wrap (1 + r267.1)) 0 (Za r269.2) (V.agg [(V.int .i64 0), (V.int .i64 0), (V.int .i64 0), (V.int .i64 0), (V.int .i64 0), (V.int .i64 0), (V.sl 3 Zb 0 none), (V.int .i64 0), (V.bool false)]) (V.agg [(V.int .i64 r249.1), (V.int .i64 r250.1), (V.int .i64 ((IntKind.i64.wrap ((IntKind.i64.wrap (r250.1 + 1)) + r252.1)).tmod 3)), (V.int .i64 (IntKind.i64.wrap (1 + r251.1))), (V.int .i64 r266.1), (V.int .i64 (IntKind.i64.wrap (1 + r267.1))), (V.sl 4 Zb 0 none), (V.int .i64 r268.1), (V.bool false)]) [] []) fun r271 =>
 some ((V.agg [(V.int .i64 (gi r271.2.2.1 0)), (V.int .i64 (gi r271.2.2.1 1)), (V.int .i64 (gi r271.2.2.1 2)), (V.int .i64 (gi r271.2.2.1 3)), (V.int .i64 (gi r271.2.2.1 4)), (V.int .i64 (gi r271.2.2.1 5)), (V.inl Zb r271.2.2.2.2), (V.int .i64 (gi r271.2.2.1 7)), (V.bool (gb r271.2.2.1 8))]), (Za r271.1))
 else some ((V.agg [(V.int .i64 r249.1), (V.int .i64 r250.1), (V.int .i64 ((IntKind.i64.wrap ((IntKind.i64.wrap (r250.1 + 1)) + r252.1)).tmod 3)), (V.int .i64 (IntKind.i64.wrap (1 + r251.1))), (V.int .i64 r266.1), (V.int .i64 (IntKind.i64.wrap (1 + r267.1))), (V.inl Zb []), (V.int .i64 0), (V.bool false)]), (Za r267.2))
 else bif (decide (r249.1 = 2)) then
 Option.bind (Zh (Za r266.2) 9) fun r272 =>
 Option.bind (Zh (Za r272.2) 5) fun r273 =>
 Option.bind (Zar ((r273.1 - 0).toNat + 1) r273.1 1 0 (Za r273.2) (V.agg [(V.int .i64 0), (V.int .i64 0), (V.int .i64 0), (V.int .i64 0), (V.int .i64 0), (V.int .i64 0), (V.sl 3 Zb 0 none), (V.int .i64 0), (V.bool false)]) (V.agg [(V.int .i64 r249.1), (V.int .i64 r250.1), (V.int .i64 ((IntKind.i64.wrap ((IntKind.i64.wrap (r250.1 + 1)) + r252.1)).tmod 3)), (V.int .i64 (IntKind.i64.wrap (1 + r251.1))), (V.int .i64 r266.1), (V.int .i64 0), (V.sl 4 Zb 0 none), (V.int .i64 r272.1), (V.bool false)]) [] []) fun r274 =>
 some ((V.agg [(V.int .i64 (gi r274.2.2.1 0)), (V.int .i64 (gi r274.2.2.1 1)), (V.int .i64 (gi r274.2.2.1 2)), (V.int .i64 (gi r274.2.2.1 3)), (V.int .i64 (gi r274.2.2.1 4)), (V.int .i64 (gi r274.2.2.1 5)), (V.inl Zb r274.2.2.2.2), (V.int .i64 (gi r274.2.2.1 7)), (V.bool (gb r274.2.2.1 8))]), (Za r274.1))
 else some ((V.agg [(V.int .i64 r249.1), (V.int .i64 r250.1), (V.int .i64 ((IntKind.i64.wrap ((IntKind.i64.wrap (r250.1 + 1)) + r252.1)).tmod 3)), (V.int .i64 (IntKind.i64.wrap (1 + r251.1))), (V.int .i64 r266.1), (V.int .i64 0), (V.inl Zb []), (V.int .i64 0), (V.bool false)]), (Za r266.2))
 else bif (decide (r249.1 = 3)) then
 Option.bind (Zh (Za r252.2) 8) fun r275 =>
 Option.bind (ZaI (Za r275.2) 3) fun r276 =>
 some ((V.agg [(V.int .i64 r249.1), (V.int .i64 r250.1), (V.int .i64 ((IntKind.i64.wrap ((IntKind.i64.wrap (r250.1 + 1)) + r252.1)).tmod 3)), (V.int .i64 (IntKind.i64.wrap (1 + r251.1))), (V.int .i64 r275.1), (V.int .i64 0), (V.inl Zb []), (V.int .i64 0), (V.bool (!r276.1))]), (Za r276.2))
 else Option.bind (ZaI (Za r252.2) 3) fun r277 =>
 some ((V.agg [(V.int .i64 r249.1), (V.int .i64 r250.1), (V.int .i64 ((IntKind.i64.wrap ((IntKind.i64.wrap (r250.1 + 1)) + r252.1)).tmod 3)), (V.int .i64 (IntKind.i64.wrap (1 + r251.1))), (V.int .i64 0), (V.int .i64 0), (V.inl Zb []), (V.int .i64 0), (V.bool (!r277.1))]), (Za r277.2))
def Zd9 (c : V) : Option (V × V) :=
 Option.bind (Zd8 (Za c)) fun r278 =>
 Option.bind (ZaI (Za r278.2) 7) fun r279 =>
 bif (!r279.1) then
 some ((Zj r278.1), (Za r279.2))
 else Option.bind (Zh (Za r279.2) 7) fun r280 =>
 bif (decide (r280.1 = 0)) then
 Option.bind (Zh (Za r280.2) 6) fun r281 =>
 some ((V.agg [(V.int .i64 (IntKind.i64.wrap (r281.1 - 1))), (V.int .i64 (gi r278.1 1)), (V.int .i64 (gi r278.1 2)), (V.int .i64 (gi r278.1 3)), (V.int .i64 (gi r278.1 4)), (V.int .i64 (gi r278.1 5)), (V.inl Zb (gl r278.1 6)), (V.int .i64 (gi r278.1 7)), (V.bool (gb r278.1 8))]), (Za r281.2))
 else bif (decide (r280.1 = 1)) then
 Option.bind (Z4 (Za r280.2) [(V.int .i64 (-1)), (V.int .i64 (gi r278.1 1)), (V.int .i64 4), (V.int .i64 5)]) fun r282 =>
 some ((V.agg [(V.int .i64 (gi r278.1 0)), (V.int .i64 (gi r278.1 1)), (V.int .i64 r282.1), (V.int .i64 (gi r278.1 3)), (V.int .i64 (gi r278.1 4)), (V.int .i64 (gi r278.1 5)), (V.inl Zb (gl r278.1 6)), (V.int .i64 (gi r278.1 7)), (V.bool (gb r278.1 8))]), (Za r282.2))
 else bif (decide (r280.1 = 2)) then
 Option.bind (Z4 (Za r280.2) [(V.int .i64 0), (V.int .i64 (-1)), (V.int .i64 100000), (V.int .i64 100001)]) fun r283 =>
 some ((V.agg [(V.int .i64 (gi r278.1 0)), (V.int .i64 (gi r278.1 1)), (V.int .i64 (gi r278.1 2)), (V.int .i64 r283.1), (V.int .i64 (gi r278.1 4)), (V.int .i64 (gi r278.1 5)), (V.inl Zb (gl r278.1 6)), (V.int .i64 (gi r278.1 7)), (V.bool (gb r278.1 8))]), (Za r283.2))
 else bif (decide (r280.1 = 3)) then
 Option.bind (Z4 (Za r280.2) [(V.int .i64 (-1)), (V.int .i64 0), (V.int .i64 400), (V.int .i64 401)]) fun r284 =>
 some ((V.agg [(V.int .i64 (gi r278.1 0)), (V.int .i64 (gi r278.1 1)), (V.int .i64 (gi r278.1 2)), (V.int .i64 (gi r278.1 3)), (V.int .i64 r284.1), (V.int .i64 (gi r278.1 5)), (V.inl Zb (gl r278.1 6)), (V.int .i64 (gi r278.1 7)), (V.bool (gb r278.1 8))]), (Za r284.2))
 else bif (decide (r280.1 = 4)) then
 Option.bind (Zh (Za r280.2) 9) fun r285 =>
 some ((V.agg [(V.int .i64 (gi r278.1 0)), (V.int .i64 (gi r278.1 1)), (V.int .i64 (gi r278.1 2)), (V.int .i64 (gi r278.1 3)), (V.int .i64 (gi r278.1 4)), (V.int .i64 (IntKind.i64.wrap (r285.1 - 1))), (V.inl Zb (gl r278.1 6)), (V.int .i64 (gi r278.1 7)), (V.bool (gb r278.1 8))]), (Za r285.2))
 else bif (decide (r280.1 = 5)) then
 Option.bind (Zh (Za r280.2) 9) fun r286 =>
 Option.bind (Za0 (Za r286.2) r286.1) fun r287 =>
 bif ((Z1 (((gl r278.1 6).length) + 1) 88) && true) then
 some ((V.agg [(V.int .i64 (gi r278.1 0)), (V.int .i64 (gi r278.1 1)), (V.int .i64 (gi r278.1 2)), (V.int .i64 (gi r278.1 3)), (V.int .i64 (gi r278.1 4)), (V.int .i64 (gi r278.1 5)), (V.inl Zb ((gl r278.1 6) ++ [(Zp r287.1)])), (V.int .i64 (gi r278.1 7)), (V.bool (gb r278.1 8))]), (Za r287.2))
 else none
 else Option.bind (Z4 (Za r280.2) [(V.int .i64 (-1)), (V.int .i64 1), (V.int .i64 400), (V.int .i64 401)]) fun r288 =>
 some ((V.agg [(V.int .i64 (gi r278.1 0)), (V.int .i64 (gi r278.1 1)), (V.int .i64 (gi r278.1 2)), (V.int .i64 (gi r278.1 3)), (V.int .i64 (gi r278.1 4)), (V.int .i64 (gi r278.1 5)), (V.inl Zb (gl r278.1 6)), (V.int .i64 r288.1), (V.bool (gb r278.1 8))]), (Za r288.2))
def ZaM : Nat → Int → Int → V → V → V → V → V → List V → List V → List V → List V → List V → List V → List V → List V → List V → List V → Option (Int × V × V × V × V × V × List V × List V × List V × List V × List V × List V × List V × List V × List V × List V)
 | 0, _, _, _, _, _, _, _, _, _, _, _, _, _, _, _, _, _ => none
 | k_ + 1, k6, i9, b0, b1, b2, b3, b4, r5, r6, r7, r8, r9, r10, r11, r12, r13, r14 =>
 bif (decide (i9 < ((r14.length : Nat) : Int))) then
 bif (Zq i9 r14.length) then
 bif (decide ((gi b4 3) < (gi (rd r14 (0 + i9.toNat)) 0))) then
 bif (Zq i9 r14.length) then
 ZaM k_ k6 (IntKind.i64.wrap (i9 + 1)) (V.agg [(V.int .i64 (gi b0 0)), (V.int .i64 (gi b0 1)), (V.int .i64 (gi b0 2)), (V.sl 5 Zb 0 none), (V.int .i64 (gi b0 4)), (V.int .i64 (gi b0 5)), (V.int .i64 (gi b0 6)), (V.int .i64 (gi b0 7)), (V.sl 6 Zi 0 none), (V.sl 7 Ze 0 none), (V.sl 8 Ze 0 none)]) (V.agg [(V.int .i64 (gi b1 0)), (V.int .i64 (gi b1 1)), (V.int .i64 (gi b1 2)), (V.int .i64 (gi b1 3)), (V.int .i64 (gi b1 4)), (V.int .i64 (gi b1 5)), (V.sl 9 Zb 0 none), (V.int .i64 (gi b1 7)), (V.bool (gb b1 8))]) (Za b2) (V.agg [(V.int .i64 (gi b3 0)), (V.int .i64 (gi b3 1)), (V.int .i64 (gi b3 2)), (V.sl 10 Zb 0 none), (V.int .i64 (gi b3 4)), (V.int .i64 (gi b3 5)), (V.int .i64 (gi b3 6)), (V.int .i64 (gi b3 7)), (V.sl 11 Zi 0 none), (V.sl 12 Ze 0 none), (V.sl 13 Ze 0 none)]) (V.agg [(V.int .i64 (gi b4 0)), (V.int .i64 (gi b4 1)), (V.int .i64 (gi b4 2)), (V.int .i64 (gi b4 3)), (V.int .i64 (gi b4 4)), (V.int .i64 (gi b4 5)), (V.sl 14 Zb 0 none), (V.int .i64 (gi b4 7)), (V.bool (gb b4 8))]) r5 r6 r7 r8 r9 r10 r11 r12 r13 (r14.set (0 + i9.toNat) (V.agg [(V.int .i64 (gi b4 3)), (V.int .i64 (gi (rd r14 (0 + i9.toNat)) 1)), (V.int .i64 (gi (rd r14 (0 + i9.toNat)) 2)), (V.int .i64 (gi (rd r14 (0 + i9.toNat)) 3)), (V.inl Zf (gl (rd r14 (0 + i9.toNat)) 4)), (V.inl Zf (gl (rd r14 (0 + i9.toNat)) 5)), (V.int .i64 (gi (rd r14 (0 + i9.toNat)) 6))]))
 else none
 else ZaM k_ k6 (IntKind.i64.wrap (i9 + 1)) (V.agg [(V.int .i64 (gi b0 0)), (V.int .i64 (gi b0 1)), (V.int .i64 (gi b0 2)), (V.sl 5 Zb 0 none), (V.int .i64 (gi b0 4)), (V.int .i64 (gi b0 5)), (V.int .i64 (gi b0 6)), (V.int .i64 (gi b0 7)), (V.sl 6 Zi 0 none), (V.sl 7 Ze 0 none), (V.sl 8 Ze 0 none)]) (V.agg [(V.int .i64 (gi b1 0)), (V.int .i64 (gi b1 1)), (V.int .i64 (gi b1 2)), (V.int .i64 (gi b1 3)), (V.int .i64 (gi b1 4)), (V.int .i64 (gi b1 5)), (V.sl 9 Zb 0 none), (V.int .i64 (gi b1 7)), (V.bool (gb b1 8))]) (Za b2) (V.agg [(V.int .i64 (gi b3 0)), (V.int .i64 (gi b3 1)), (V.int .i64 (gi b3 2)), (V.sl 10 Zb 0 none), (V.int .i64 (gi b3 4)), (V.int .i64 (gi b3 5)), (V.int .i64 (gi b3 6)), (V.int .i64 (gi b3 7)), (V.sl 11 Zi 0 none), (V.sl 12 Ze 0 none), (V.sl 13 Ze 0 none)]) (V.agg [(V.int .i64 (gi b4 0)), (V.int .i64 (gi b4 1)), (V.int .i64 (gi b4 2)), (V.int .i64 (gi b4 3)), (V.int .i64 (gi b4 4)), (V.int .i64 (gi b4 5)), (V.sl 14 Zb 0 none), (V.int .i64 (gi b4 7)), (V.bool (gb b4 8))]) r5 r6 r7 r8 r9 r10 r11 r12 r13 r14
 else none
 else some (k6, (V.agg [(V.int .i64 (gi b0 0)), (V.int .i64 (gi b0 1)), (V.int .i64 (gi b0 2)), (V.sl 5 Zb 0 none), (V.int .i64 (gi b0 4)), (V.int .i64 (gi b0 5)), (V.int .i64 (gi b0 6)), (V.int .i64 (gi b0 7)), (V.sl 6 Zi 0 none), (V.sl 7 Ze 0 none), (V.sl 8 Ze 0 none)]), (V.agg [(V.int .i64 (gi b1 0)), (V.int .i64 (gi b1 1)), (V.int .i64 (gi b1 2)), (V.int .i64 (gi b1 3)), (V.int .i64 (gi b1 4)), (V.int .i64 (gi b1 5)), (V.sl 9 Zb 0 none), (V.int .i64 (gi b1 7)), (V.bool (gb b1 8))]), (Za b2), (V.agg [(V.int .i64 (gi b3 0)), (V.int .i64 (gi b3 1)), (V.int .i64 (gi b3 2)), (V.sl 10 Zb 0 none), (V.int .i64 (gi b3 4)), (V.int .i64 (gi b3 5)), (V.int .i64 (gi b3 6)), (V.int .i64 (gi b3 7)), (V.sl 11 Zi 0 none), (V.sl 12 Ze 0 none), (V.sl 13 Ze 0 none)]), (V.agg [(V.int .i64 (gi b4 0)), (V.int .i64 (gi b4 1)), (V.int .i64 (gi b4 2)), (V.int .i64 (gi b4 3)), (V.int .i64 (gi b4 4)), (V.int .i64 (gi b4 5)), (V.sl 14 Zb 0 none), (V.int .i64 (gi b4 7)), (V.bool (gb b4 8))]), r5, r6, r7, r8, r9, r10, r11, r12, r13, r14)
def ZaX : Nat → Int → Int → V → V → V → V → List V → List V → List V → List V → List V → List V → List V → List V → List V → List V → Option (Int × V × V × V × V × List V × List V × List V × List V × List V × List V × List V × List V × List V × List V)
 | 0, _, _, _, _, _, _, _, _, _, _, _, _, _, _, _, _ => none
 | k_ + 1, k6, i10, b0, b1, b2, b3, r4, r5, r6, r7, r8, r9, r10, r11, r12, r13 =>
 bif (decide (i10 < ((r13.length : Nat) : Int))) then
 bif (Zq i10 r13.length) then
 bif (decide ((gi (rd r13 (0 + i10.toNat)) 0) < (gi b3 5))) then
 bif (Zq i10 r13.length) then
 ZaX k_ k6 (IntKind.i64.wrap (i10 + 1)) (V.agg [(V.int .i64 (gi b0 0)), (V.int .i64 (gi b0 1)), (V.int .i64 (gi b0 2)), (V.sl 4 Zb 0 none), (V.int .i64 (gi b0 4)), (V.int .i64 (gi b0 5)), (V.int .i64 (gi b0 6)), (V.int .i64 (gi b0 7)), (V.sl 5 Zi 0 none), (V.sl 6 Ze 0 none), (V.sl 7 Ze 0 none)]) (V.agg [(V.int .i64 (gi b1 0)), (V.int .i64 (gi b1 1)), (V.int .i64 (gi b1 2)), (V.int .i64 (gi b1 3)), (V.int .i64 (gi b1 4)), (V.int .i64 (gi b1 5)), (V.sl 8 Zb 0 none), (V.int .i64 (gi b1 7)), (V.bool (gb b1 8))]) (V.agg [(V.int .i64 (gi b2 0)), (V.int .i64 (gi b2 1)), (V.int .i64 (gi b2 2)), (V.sl 9 Zb 0 none), (V.int .i64 (gi b2 4)), (V.int .i64 (gi b2 5)), (V.int .i64 (gi b2 6)), (V.int .i64 (gi b2 7)), (V.sl 10 Zi 0 none), (V.sl 11 Ze 0 none), (V.sl 12 Ze 0 none)]) (V.agg [(V.int .i64 (gi b3 0)), (V.int .i64 (gi b3 1)), (V.int .i64 (gi b3 2)), (V.int .i64 (gi b3 3)), (V.int .i64 (gi b3 4)), (V.int .i64 (gi b3 5)), (V.sl 13 Zb 0 none), (V.int .i64 (gi b3 7)), (V.bool (gb b3 8))]) r4 r5 r6 r7 r8 r9 r10 r11 r12 (r13.set (0 + i10.toNat) (V.agg [(V.int .i64 (gi b3 5)), (V.int .i64 (gi (rd r13 (0 + i10.toNat)) 1)), (V.int .i64 (gi (rd r13 (0 + i10.toNat)) 2)), (V.int .i64 (gi (rd r13 (0 + i10.toNat)) 3)), (V.inl Zf (gl (rd r13 (0 + i10.toNat)) 4)), (V.inl Zf (gl (rd r13 (0 + i10.toNat)) 5)), (V.int .i64 (gi (rd r13 (0 + i10.toNat)) 6))]))
 else none
 else ZaX k_ k6 (IntKind.i64.wrap (i10 + 1)) (V.agg [(V.int .i64 (gi b0 0)), (V.int .i64 (gi b0 1)), (V.int .i64 (gi b0 2)), (V.sl 4 Zb 0 none), (V.int .i64 (gi b0 4)), (V.int .i64 (gi b0 5)), (V.int .i64 (gi b0 6)), (V.int .i64 (gi b0 7)), (V.sl 5 Zi 0 none), (V.sl 6 Ze 0 none), (V.sl 7 Ze 0 none)]) (V.agg [(V.int .i64 (gi b1 0)), (V.int .i64 (gi b1 1)), (V.int .i64 (gi b1 2)), (V.int .i64 (gi b1 3)), (V.int .i64 (gi b1 4)), (V.int .i64 (gi b1 5)), (V.sl 8 Zb 0 none), (V.int .i64 (gi b1 7)), (V.bool (gb b1 8))]) (V.agg [(V.int .i64 (gi b2 0)), (V.int .i64 (gi b2 1)), (V.int .i64 (gi b2 2)), (V.sl 9 Zb 0 none), (V.int .i64 (gi b2 4)), (V.int .i64 (gi b2 5)), (V.int .i64 (gi b2 6)), (V.int .i64 (gi b2 7)), (V.sl 10 Zi 0 none), (V.sl 11 Ze 0 none), (V.sl 12 Ze 0 none)]) (V.agg [(V.int .i64 (gi b3 0)), (V.int .i64 (gi b3 1)), (V.int .i64 (gi b3 2)), (V.int .i64 (gi b3 3)), (V.int .i64 (gi b3 4)), (V.int .i64 (gi b3 5)), (V.sl 13 Zb 0 none), (V.int .i64 (gi b3 7)), (V.bool (gb b3 8))]) r4 r5 r6 r7 r8 r9 r10 r11 r12 r13
 else none
 else some (k6, (V.agg [(V.int .i64 (gi b0 0)), (V.int .i64 (gi b0 1)), (V.int .i64 (gi b0 2)), (V.sl 4 Zb 0 none), (V.int .i64 (gi b0 4)), (V.int .i64 (gi b0 5)), (V.int .i64 (gi b0 6)), (V.int .i64 (gi b0 7)), (V.sl 5 Zi 0 none), (V.sl 6 Ze 0 none), (V.sl 7 Ze 0 none)]), (V.agg [(V.int .i64 (gi b1 0)), (V.int .i64 (gi b1 1)), (V.int .i64 (gi b1 2)), (V.int .i64 (gi b1 3)), (V.int .i64 (gi b1 4)), (V.int .i64 (gi b1 5)), (V.sl 8 Zb 0 none), (V.int .i64 (gi b1 7)), (V.bool (gb b1 8))]), (V.agg [(V.int .i64 (gi b2 0)), (V.int .i64 (gi b2 1)), (V.int .i64 (gi b2 2)), (V.sl 9 Zb 0 none), (V.int .i64 (gi b2 4)), (V.int .i64 (gi b2 5)), (V.int .i64 (gi b2 6)), (V.int .i64 (gi b2 7)), (V.sl 10 Zi 0 none), (V.sl 11 Ze 0 none), (V.sl 12 Ze 0 none)]), (V.agg [(V.int .i64 (gi b3 0)), (V.int .i64 (gi b3 1)), (V.int .i64 (gi b3 2)), (V.int .i64 (gi b3 3)), (V.int .i64 (gi b3 4)), (V.int .i64 (gi b3 5)), (V.sl 13 Zb 0 none), (V.int .i64 (gi b3 7)), (V.bool (gb b3 8))]), r4, r5, r6, r7, r8, r9, r10, r11, r12, r13)
def nodeV (b : V) (l3 l8 l9 l10 : List V) : V := V.agg [(V.int .i64 (gi b 0)), (V.int .i64 (gi b 1)), (V.int .i64 (gi b 2)), (V.inl Zb l3), (V.int .i64 (gi b 4)), (V.int .i64 (gi b 5)), (V.int .i64 (gi b 6)), (V.int .i64 (gi b 7)), (V.inl Zi l8), (V.inl Ze l9), (V.inl Ze l10)]
def msgV (b : V) (l : List V) : V := V.agg [(V.int .i64 (gi b 0)), (V.int .i64 (gi b 1)), (V.int .i64 (gi b 2)), (V.int .i64 (gi b 3)), (V.int .i64 (gi b 4)), (V.int .i64 (gi b 5)), (V.inl Zb l), (V.int .i64 (gi b 7)), (V.bool (gb b 8))]
def toM (M : V) (f t : Int) : V := V.agg [(V.int .i64 (gi M 0)), (V.int .i64 f), (V.int .i64 t), (V.int .i64 (gi M 3)), (V.int .i64 (gi M 4)), (V.int .i64 (gi M 5)), (V.inl Zb (gl M 6)), (V.int .i64 (gi M 7)), (V.bool (gb M 8))]
def tailH (k : Int) (c N M b0 b1 : V) (e0 e1 e2 e3 e4 : List V) : Option (V × Int × V) :=
 bif (decide ((gi M 0) = 2)) then
 bif (decide ((gi M 4) ≤ (((gl N 3).length : Nat) : Int))) then
 bif (decide ((0 : Int) < (gi M 4))) then
 Option.bind (ZaI (Za c) 2) fun r358 =>
 bif r358.1 then
 Option.bind (Zc1 (Zc N) (gi M 4)) fun r359 =>
 Option.bind (ZaX (((((gl M 6).length : Nat) : Int) - 0).toNat + 1) k 0 b0 b1 (V.agg [(V.int .i64 (gi N 0)), (V.int .i64 (gi N 1)), (V.int .i64 (gi N 2)), (V.sl 9 Zb 0 none), (V.int .i64 (gi N 4)), (V.int .i64 (gi N 5)), (V.int .i64 (gi N 6)), (V.int .i64 (gi N 7)), (V.sl 10 Zi 0 none), (V.sl 11 Ze 0 none), (V.sl 12 Ze 0 none)]) (V.agg [(V.int .i64 (gi M 0)), (V.int .i64 (gi M 1)), (V.int .i64 (gi M 2)), (V.int .i64 (gi M 3)), (V.int .i64 (gi M 4)), (V.int .i64 r359), (V.sl 13 Zb 0 none), (V.int .i64 (gi M 7)), (V.bool (gb M 8))]) e0 e1 e2 e3 e4 (gl N 3) (gl N 8) (gl N 9) (gl N 10) (gl M 6)) fun r360 =>
 bif (decide ((gi r360.2.2.2.2.1 3) < (gi r360.2.2.2.2.1 5))) then
 some ((V.agg [(V.int .i64 (gi r360.2.2.2.1 0)), (V.int .i64 (gi r360.2.2.2.1 1)), (V.int .i64 (gi r360.2.2.2.1 2)), (V.inl Zb r360.2.2.2.2.2.2.2.2.2.2.1), (V.int .i64 (gi r360.2.2.2.1 4)), (V.int .i64 (gi r360.2.2.2.1 5)), (V.int .i64 (gi r360.2.2.2.1 6)), (V.int .i64 (gi r360.2.2.2.1 7)), (V.inl Zi r360.2.2.2.2.2.2.2.2.2.2.2.1), (V.inl Ze r360.2.2.2.2.2.2.2.2.2.2.2.2.1), (V.inl Ze r360.2.2.2.2.2.2.2.2.2.2.2.2.2.1)]), r360.1, (V.agg [(V.int .i64 (gi r360.2.2.2.2.1 0)), (V.int .i64 (gi r360.2.2.2.2.1 1)), (V.int .i64 (gi r360.2.2.2.2.1 2)), (V.int .i64 (gi r360.2.2.2.2.1 5)), (V.int .i64 (gi r360.2.2.2.2.1 4)), (V.int .i64 (gi r360.2.2.2.2.1 5)), (V.inl Zb r360.2.2.2.2.2.2.2.2.2.2.2.2.2.2), (V.int .i64 (gi r360.2.2.2.2.1 7)), (V.bool (gb r360.2.2.2.2.1 8))]))
 else some ((V.agg [(V.int .i64 (gi r360.2.2.2.1 0)), (V.int .i64 (gi r360.2.2.2.1 1)), (V.int .i64 (gi r360.2.2.2.1 2)), (V.inl Zb r360.2.2.2.2.2.2.2.2.2.2.1), (V.int .i64 (gi r360.2.2.2.1 4)), (V.int .i64 (gi r360.2.2.2.1 5)), (V.int .i64 (gi r360.2.2.2.1 6)), (V.int .i64 (gi r360.2.2.2.1 7)), (V.inl Zi r360.2.2.2.2.2.2.2.2.2.2.2.1), (V.inl Ze r360.2.2.2.2.2.2.2.2.2.2.2.2.1), (V.inl Ze r360.2.2.2.2.2.2.2.2.2.2.2.2.2.1)]), r360.1, (V.agg [(V.int .i64 (gi r360.2.2.2.2.1 0)), (V.int .i64 (gi r360.2.2.2.2.1 1)), (V.int .i64 (gi r360.2.2.2.2.1 2)), (V.int .i64 (gi r360.2.2.2.2.1 3)), (V.int .i64 (gi r360.2.2.2.2.1 4)), (V.int .i64 (gi r360.2.2.2.2.1 5)), (V.inl Zb r360.2.2.2.2.2.2.2.2.2.2.2.2.2.2), (V.int .i64 (gi r360.2.2.2.2.1 7)), (V.bool (gb r360.2.2.2.2.1 8))]))
 else some ((Zc N), k, (Zj M))
 else some ((Zc N), k, (Zj M))
 else some ((Zc N), k, (Zj M))
 else some ((Zc N), k, (Zj M))
def midH (k : Int) (c N M : V) : Option (V × Int × V) :=
 Option.bind (ZaI (Za c) 2) fun q =>
 bif q.1 then
 bif (decide ((0 : Int) < (gi N 1))) then
 bif (decide ((gi N 1) < (gi M 5))) then
 Option.bind (ZaM (((((gl M 6).length : Nat) : Int) - 0).toNat + 1) k 0 (V.agg [(V.int .i64 0), (V.int .i64 0), (V.int .i64 0), (V.sl 5 Zb 0 none), (V.int .i64 0), (V.int .i64 0), (V.int .i64 0), (V.int .i64 0), (V.sl 6 Zi 0 none), (V.sl 7 Ze 0 none), (V.sl 8 Ze 0 none)]) (V.agg [(V.int .i64 0), (V.int .i64 0), (V.int .i64 0), (V.int .i64 0), (V.int .i64 0), (V.int .i64 0), (V.sl 9 Zb 0 none), (V.int .i64 0), (V.bool false)]) (Za q.2) (V.agg [(V.int .i64 (gi N 0)), (V.int .i64 (gi N 1)), (V.int .i64 (gi N 2)), (V.sl 10 Zb 0 none), (V.int .i64 (gi N 4)), (V.int .i64 (gi N 5)), (V.int .i64 (gi N 6)), (V.int .i64 (gi N 7)), (V.sl 11 Zi 0 none), (V.sl 12 Ze 0 none), (V.sl 13 Ze 0 none)]) (V.agg [(V.int .i64 (gi M 0)), (V.int .i64 (gi M 1)), (V.int .i64 (gi M 2)), (V.int .i64 (gi N 1)), (V.int .i64 (gi M 4)), (V.int .i64 (gi N 1)), (V.sl 14 Zb 0 none), (V.int .i64 (gi M 7)), (V.bool (gb M 8))]) [] [] [] [] [] (gl N 3) (gl N 8) (gl N 9) (gl N 10) (gl M 6)) fun s =>
 tailH s.1 (s.2.2.2.1) (nodeV s.2.2.2.2.1 s.2.2.2.2.2.2.2.2.2.2.2.1 s.2.2.2.2.2.2.2.2.2.2.2.2.1 s.2.2.2.2.2.2.2.2.2.2.2.2.2.1 s.2.2.2.2.2.2.2.2.2.2.2.2.2.2.1) (msgV s.2.2.2.2.2.1 s.2.2.2.2.2.2.2.2.2.2.2.2.2.2.2) (V.agg [(V.int .i64 (gi s.2.1 0)), (V.int .i64 (gi s.2.1 1)), (V.int .i64 (gi s.2.1 2)), (V.sl 4 Zb 0 none), (V.int .i64 (gi s.2.1 4)), (V.int .i64 (gi s.2.1 5)), (V.int .i64 (gi s.2.1 6)), (V.int .i64 (gi s.2.1 7)), (V.sl 5 Zi 0 none), (V.sl 6 Ze 0 none), (V.sl 7 Ze 0 none)]) (V.agg [(V.int .i64 (gi s.2.2.1 0)), (V.int .i64 (gi s.2.2.1 1)), (V.int .i64 (gi s.2.2.1 2)), (V.int .i64 (gi s.2.2.1 3)), (V.int .i64 (gi s.2.2.1 4)), (V.int .i64 (gi s.2.2.1 5)), (V.sl 8 Zb 0 none), (V.int .i64 (gi s.2.2.1 7)), (V.bool (gb s.2.2.1 8))]) s.2.2.2.2.2.2.1 s.2.2.2.2.2.2.2.1 s.2.2.2.2.2.2.2.2.1 s.2.2.2.2.2.2.2.2.2.1 s.2.2.2.2.2.2.2.2.2.2.1
 else Option.bind (ZaM (((((gl M 6).length : Nat) : Int) - 0).toNat + 1) k 0 (V.agg [(V.int .i64 0), (V.int .i64 0), (V.int .i64 0), (V.sl 5 Zb 0 none), (V.int .i64 0), (V.int .i64 0), (V.int .i64 0), (V.int .i64 0), (V.sl 6 Zi 0 none), (V.sl 7 Ze 0 none), (V.sl 8 Ze 0 none)]) (V.agg [(V.int .i64 0), (V.int .i64 0), (V.int .i64 0), (V.int .i64 0), (V.int .i64 0), (V.int .i64 0), (V.sl 9 Zb 0 none), (V.int .i64 0), (V.bool false)]) (Za q.2) (V.agg [(V.int .i64 (gi N 0)), (V.int .i64 (gi N 1)), (V.int .i64 (gi N 2)), (V.sl 10 Zb 0 none), (V.int .i64 (gi N 4)), (V.int .i64 (gi N 5)), (V.int .i64 (gi N 6)), (V.int .i64 (gi N 7)), (V.sl 11 Zi 0 none), (V.sl 12 Ze 0 none), (V.sl 13 Ze 0 none)]) (V.agg [(V.int .i64 (gi M 0)), (V.int .i64 (gi M 1)), (V.int .i64 (gi M 2)), (V.int .i64 (gi N 1)), (V.int .i64 (gi M 4)), (V.int .i64 (gi M 5)), (V.sl 14 Zb 0 none), (V.int .i64 (gi M 7)), (V.bool (gb M 8))]) [] [] [] [] [] (gl N 3) (gl N 8) (gl N 9) (gl N 10) (gl M 6)) fun s =>
 tailH s.1 (s.2.2.2.1) (nodeV s.2.2.2.2.1 s.2.2.2.2.2.2.2.2.2.2.2.1 s.2.2.2.2.2.2.2.2.2.2.2.2.1 s.2.2.2.2.2.2.2.2.2.2.2.2.2.1 s.2.2.2.2.2.2.2.2.2.2.2.2.2.2.1) (msgV s.2.2.2.2.2.1 s.2.2.2.2.2.2.2.2.2.2.2.2.2.2.2) (V.agg [(V.int .i64 (gi s.2.1 0)), (V.int .i64 (gi s.2.1 1)), (V.int .i64 (gi s.2.1 2)), (V.sl 4 Zb 0 none), (V.int .i64 (gi s.2.1 4)), (V.int .i64 (gi s.2.1 5)), (V.int .i64 (gi s.2.1 6)), (V.int .i64 (gi s.2.1 7)), (V.sl 5 Zi 0 none), (V.sl 6 Ze 0 none), (V.sl 7 Ze 0 none)]) (V.agg [(V.int .i64 (gi s.2.2.1 0)), (V.int .i64 (gi s.2.2.1 1)), (V.int .i64 (gi s.2.2.1 2)), (V.int .i64 (gi s.2.2.1 3)), (V.int .i64 (gi s.2.2.1 4)), (V.int .i64 (gi s.2.2.1 5)), (V.sl 8 Zb 0 none), (V.int .i64 (gi s.2.2.1 7)), (V.bool (gb s.2.2.1 8))]) s.2.2.2.2.2.2.1 s.2.2.2.2.2.2.2.1 s.2.2.2.2.2.2.2.2.1 s.2.2.2.2.2.2.2.2.2.1 s.2.2.2.2.2.2.2.2.2.2.1
 else tailH k q.2 N M (V.agg [(V.int .i64 0), (V.int .i64 0), (V.int .i64 0), (V.sl 4 Zb 0 none), (V.int .i64 0), (V.int .i64 0), (V.int .i64 0), (V.int .i64 0), (V.sl 5 Zi 0 none), (V.sl 6 Ze 0 none), (V.sl 7 Ze 0 none)]) (V.agg [(V.int .i64 0), (V.int .i64 0), (V.int .i64 0), (V.int .i64 0), (V.int .i64 0), (V.int .i64 0), (V.sl 8 Zb 0 none), (V.int .i64 0), (V.bool false)]) [] [] [] [] []
 else tailH k q.2 N M (V.agg [(V.int .i64 0), (V.int .i64 0), (V.int .i64 0), (V.sl 4 Zb 0 none), (V.int .i64 0), (V.int .i64 0), (V.int .i64 0), (V.int .i64 0), (V.sl 5 Zi 0 none), (V.sl 6 Ze 0 none), (V.sl 7 Ze 0 none)]) (V.agg [(V.int .i64 0), (V.int .i64 0), (V.int .i64 0), (V.int .i64 0), (V.int .i64 0), (V.int .i64 0), (V.sl 8 Zb 0 none), (V.int .i64 0), (V.bool false)]) [] [] [] [] []
def Zdx (code : List V) : Option (V × Int × V) :=
 Option.bind (ZdV code) fun r0 =>
 Option.bind (ZdW (Za r0)) fun r1 =>
 Option.bind (Zd7 (Za r1.2) r1.1) fun r2 =>
 Option.bind (Zd9 (Za r2.2)) fun r3 =>
 Option.bind (ZaI (Za r3.2) 9) fun r4 =>
 bif (!r4.1) then
 bif (decide ((1 : Int) < r1.1)) then
 Option.bind (Zh (Za r4.2) (IntKind.i64.wrap (r1.1 - 1))) fun r5 =>
 bif (!(decide (r1.1 = 0))) then midH r1.1 r5.2 r2.1 (toM r3.1 ((IntKind.i64.wrap ((IntKind.i64.wrap ((gi r2.1 0) + 1)) + r5.1)).tmod r1.1) (gi r2.1 0)) else none
 else midH r1.1 r4.2 r2.1 r3.1
 else midH r1.1 r4.2 r2.1 r3.1
def Zo (n : Int) (low : Int) (high : Int) : Bool :=
 bif (decide (low ≤ n)) then
 (decide (n ≤ high))
 else false
def Zdy (id : Int) (servers : Int) : Bool :=
 bif Zo servers 1 5 then
 (Zo id 0 (IntKind.i64.wrap (servers - 1)))
 else false
def Zc7 (n : Int) : Bool :=
 (Zo n 1 100000)
def Zb8 : V :=
 (V.agg [(V.int .i64 (-1)), (V.int .i64 0), (V.int .i64 0), (V.inl Zf []), (V.inl Zf []), (V.int .i64 0)])
def Zea (a : List V) (b : List V) : Bool :=
 (Zcg (a.map normB) (b.map normB))
def impl_Op_same (o : V) (p : V) : Bool :=
 bif (decide ((gi o 0) = (gi p 0))) then
 bif Zea (gl o 1) (gl p 1) then
 bif Zea (gl o 2) (gl p 2) then
 (decide ((gi o 3) = (gi p 3)))
 else false
 else false
 else false
def Zdz (c : V) (d : V) : Bool :=
 bif (decide ((gi c 0) = (gi d 0))) then
 bif (decide ((gi c 1) = (gi d 1))) then
 (impl_Op_same (V.agg [(V.int .i64 (gi c 2)), (V.inl Zf (gl c 3)), (V.inl Zf (gl c 4)), (V.int .i64 (gi c 5))]) (V.agg [(V.int .i64 (gi d 2)), (V.inl Zf (gl d 3)), (V.inl Zf (gl d 4)), (V.int .i64 (gi d 5))]))
 else false
 else false
def Zbi : Nat → List V → List V → Int → Int → Option (Nat × List V × Bool)
 | 0, _, _, _, _ => none
 | k_ + 1, b0, v5, v6, v7 =>
 bif (decide (v7 < v6)) then
 bif (Zq v7 v5.length) then
 bif (decide ((gi (rd v5 v7.toNat) 0) < 97)) then
 bif (!(decide ((gi (rd v5 v7.toNat) 0) = 47))) then
 some (0, b0, false)
 else Zbi k_ b0 v5 v6 (IntKind.i64.wrap (v7 + 1))
 else bif (decide ((122 : Int) < (gi (rd v5 v7.toNat) 0))) then
 bif (!(decide ((gi (rd v5 v7.toNat) 0) = 47))) then
 some (0, b0, false)
 else Zbi k_ b0 v5 v6 (IntKind.i64.wrap (v7 + 1))
 else Zbi k_ b0 v5 v6 (IntKind.i64.wrap (v7 + 1))
 else none
 else some (1, b0, false)
def ZcC (b : List V) : Option (Bool) :=
 Option.bind (Zbi ((((b.length : Nat) : Int) - 0).toNat + 1) b b ((b.length : Nat) : Int) 0) fun r362 =>
 bif (Nat.beq r362.1 0) then
 some r362.2.2
 else some (Zo ((r362.2.1.length : Nat) : Int) 1 20)
def Zde (b : List V) : Bool :=
 (decide (((b.length : Nat) : Int) ≤ 20))
def impl_OpOk (o : V) : Option (Bool) :=
 bif (decide ((gi o 0) = 0)) then
 bif Zo (gi o 3) 0 0 then
 bif (decide ((((gl o 1).length : Nat) : Int) = 0)) then
 some (decide ((((gl o 2).length : Nat) : Int) = 0))
 else some false
 else some false
 else bif (decide ((gi o 0) = 1)) then
 bif Zo (gi o 3) 0 0 then
 Option.bind (ZcC (gl o 1)) fun r363 =>
 bif r363 then
 bif Zde (gl o 2) then
 some true
 else some false
 else some false
 else some false
 else bif (decide ((gi o 0) = 2)) then
 bif Zo (gi o 3) 0 1000000 then
 Option.bind (ZcC (gl o 1)) fun r364 =>
 bif r364 then
 bif Zde (gl o 2) then
 some true
 else some false
 else some false
 else some false
 else bif (decide ((gi o 0) = 3)) then
 bif Zo (gi o 3) 0 0 then
 Option.bind (ZcC (gl o 1)) fun r365 =>
 bif r365 then
 some (decide ((((gl o 2).length : Nat) : Int) = 0))
 else some false
 else some false
 else bif (decide ((gi o 0) = 4)) then
 bif Zo (gi o 3) 0 1 then
 bif (decide ((((gl o 1).length : Nat) : Int) = 0)) then
 some (decide ((((gl o 2).length : Nat) : Int) = 0))
 else some false
 else some false
 else bif (decide ((gi o 0) = 5)) then
 bif Zo (gi o 3) 1 1000000 then
 bif (decide ((((gl o 1).length : Nat) : Int) = 0)) then
 some (decide ((((gl o 2).length : Nat) : Int) = 0))
 else some false
 else some false
 else bif (decide ((gi o 0) = 6)) then
 bif Zo (gi o 3) 1 1000000 then
 Option.bind (ZcC (gl o 1)) fun r366 =>
 bif r366 then
 bif Zde (gl o 2) then
 some true
 else some false
 else some false
 else some false
 else bif (decide ((gi o 0) = 7)) then
 bif Zo (gi o 3) 1 1000000 then
 Option.bind (ZcC (gl o 1)) fun r367 =>
 bif r367 then
 some (decide ((((gl o 2).length : Nat) : Int) = 0))
 else some false
 else some false
 else some false
def impl_CmdOk (c : V) : Option (Bool) :=
 bif Zdz (Zb3 c) (Zb3 Zb8) then
 some true
 else bif Zo (gi c 0) 0 3 then
 bif Zo (gi c 1) 1 1000000 then
 Option.bind (impl_OpOk (V.agg [(V.int .i64 (gi c 2)), (V.inl Zf (gl c 3)), (V.inl Zf (gl c 4)), (V.int .i64 (gi c 5))])) fun r368 =>
 some r368
 else some false
 else some false
def ZcN (x : V) : Option (Bool) :=
 bif Zc7 (gi x 0) then
 Option.bind (impl_CmdOk (V.agg [(V.int .i64 (gi x 1)), (V.int .i64 (gi x 2)), (V.int .i64 (gi x 3)), (V.inl Zf (gl x 4)), (V.inl Zf (gl x 5)), (V.int .i64 (gi x 6))])) fun r369 =>
 some r369
 else some false
def ZaF : Nat → List V → Bool → Int → Int → Option (Nat × Int)
 | 0, _, _, _, _ => none
 | k_ + 1, s0, v1, v7, v8 =>
 bif (decide (v8 < v7)) then
 bif (Zq v8 s0.length) then
 bif (v1 == (gb (rd s0 v8.toNat) 0)) then
 some (0, v8)
 else ZaF k_ s0 v1 v7 (IntKind.i64.wrap (v8 + 1))
 else none
 else some (1, 0)
def Zdp (s : List V) (v : Bool) : Option (Int) :=
 Option.bind (ZaF ((((s.length : Nat) : Int) - 0).toNat + 1) s v ((s.length : Nat) : Int) 0) fun r372 =>
 bif (Nat.beq r372.1 0) then
 some r372.2
 else some (-1)
def Zb4 (s : List V) (v : Bool) : Option (Bool) :=
 Option.bind (Zdp s v) fun r373 =>
 some (decide ((0 : Int) ≤ r373))
def ZaP : Nat → Int → Int → List V → Int → Int → V → Option (Nat × Int × Bool × V)
 | 0, _, _, _, _, _, _ => none
 | k_ + 1, servers1, term5, v43, v44, v45, b0 =>
 bif (decide (v45 < v44)) then
 bif (Zq v45 v43.length) then
 Option.bind (ZcN (Zp (rd v43 v45.toNat))) fun r370 =>
 bif (!r370) then
 some (0, servers1, false, (Zc b0))
 else bif (!(Zo (gi (rd v43 v45.toNat) 0) term5 (gi b0 1))) then
 some (0, servers1, false, (Zc b0))
 else ZaP k_ servers1 (gi (rd v43 v45.toNat) 0) v43 v44 (IntKind.i64.wrap (v45 + 1)) (Zc b0)
 else none
 else some (1, servers1, false, (Zc b0))
def ZL : Nat → Int → Int → V → Option (Nat × Bool)
 | 0, _, _, _ => none
 | k_ + 1, v141, v142, b0 =>
 bif (decide (v142 < v141)) then
 bif (decide ((gi b0 5) = 2)) then
 bif (Zq v142 ((gl b0 9).length)) then
 bif (!(Zo (gi (rd (gl b0 9) v142.toNat) 0) 1 (IntKind.i64.wrap ((((gl b0 3).length : Nat) : Int) + 1)))) then
 some (0, false)
 else bif (Zq v142 ((gl b0 10).length)) then
 bif (!(Zo (gi (rd (gl b0 10) v142.toNat) 0) 0 (((gl b0 3).length : Nat) : Int))) then
 some (0, false)
 else bif (!(decide ((gi b0 5) = 2))) then
 bif (Zq v142 ((gl b0 9).length)) then
 bif (!(decide ((gi (rd (gl b0 9) v142.toNat) 0) = 0))) then
 some (0, false)
 else bif (Zq v142 ((gl b0 10).length)) then
 bif (!(decide ((gi (rd (gl b0 10) v142.toNat) 0) = 0))) then
 some (0, false)
 else ZL k_ v141 (IntKind.i64.wrap (v142 + 1)) (Zc b0)
 else none
 else none
 else ZL k_ v141 (IntKind.i64.wrap (v142 + 1)) (Zc b0)
 else none
 else none
 else bif (!(decide ((gi b0 5) = 2))) then
 bif (Zq v142 ((gl b0 9).length)) then
 bif (!(decide ((gi (rd (gl b0 9) v142.toNat) 0) = 0))) then
 some (0, false)
 else bif (Zq v142 ((gl b0 10).length)) then
 bif (!(decide ((gi (rd (gl b0 10) v142.toNat) 0) = 0))) then
 some (0, false)
 else ZL k_ v141 (IntKind.i64.wrap (v142 + 1)) (Zc b0)
 else none
 else none
 else ZL k_ v141 (IntKind.i64.wrap (v142 + 1)) (Zc b0)
 else some (1, false)
def Zc8 (n : V) (servers : Int) : Option (Bool) :=
 bif (!(Zdy (gi n 0) servers)) then
 some false
 else bif (!(Zo (gi n 1) 0 100000)) then
 some false
 else bif (!(Zo (gi n 2) (-1) (IntKind.i64.wrap (servers - 1)))) then
 some false
 else bif (!(Zo (gi n 6) (-1) (IntKind.i64.wrap (servers - 1)))) then
 some false
 else bif (decide ((400 : Int) < (((gl n 3).length : Nat) : Int))) then
 some false
 else Option.bind (ZaP (((((gl n 3).length : Nat) : Int) - 0).toNat + 1) servers 1 (gl n 3) (((gl n 3).length : Nat) : Int) 0 (Zc n)) fun r371 =>
 bif (Nat.beq r371.1 0) then
 some r371.2.2.1
 else bif (!(Zo (gi r371.2.2.2 4) 0 (((gl r371.2.2.2 3).length : Nat) : Int))) then
 some false
 else bif (!(Zo (gi r371.2.2.2 5) 0 2)) then
 some false
 else bif (!(Zo (gi r371.2.2.2 7) 0 20)) then
 some false
 else bif (!(decide ((((gl r371.2.2.2 8).length : Nat) : Int) = r371.2.1))) then
 some false
 else bif (!(decide ((((gl r371.2.2.2 9).length : Nat) : Int) = r371.2.1))) then
 some false
 else bif (!(decide ((((gl r371.2.2.2 10).length : Nat) : Int) = r371.2.1))) then
 some false
 else bif (decide ((gi r371.2.2.2 5) = 0)) then
 Option.bind (Zb4 (gl r371.2.2.2 8) true) fun r374 =>
 bif r374 then
 some false
 else bif (!(decide ((gi r371.2.2.2 5) = 0))) then
 bif (decide ((gi r371.2.2.2 1) < 1)) then
 some false
 else bif (!(decide ((gi r371.2.2.2 2) = (gi r371.2.2.2 0)))) then
 some false
 else bif (decide ((gi r371.2.2.2 5) = 2)) then
 bif (!(decide ((gi r371.2.2.2 6) = (gi r371.2.2.2 0)))) then
 some false
 else Option.bind (ZL ((r371.2.1 - 0).toNat + 1) r371.2.1 0 (Zc r371.2.2.2)) fun r375 =>
 bif (Nat.beq r375.1 0) then
 some r375.2
 else some true
 else Option.bind (ZL ((r371.2.1 - 0).toNat + 1) r371.2.1 0 (Zc r371.2.2.2)) fun r376 =>
 bif (Nat.beq r376.1 0) then
 some r376.2
 else some true
 else bif (decide ((gi r371.2.2.2 5) = 2)) then
 bif (!(decide ((gi r371.2.2.2 6) = (gi r371.2.2.2 0)))) then
 some false
 else Option.bind (ZL ((r371.2.1 - 0).toNat + 1) r371.2.1 0 (Zc r371.2.2.2)) fun r377 =>
 bif (Nat.beq r377.1 0) then
 some r377.2
 else some true
 else Option.bind (ZL ((r371.2.1 - 0).toNat + 1) r371.2.1 0 (Zc r371.2.2.2)) fun r378 =>
 bif (Nat.beq r378.1 0) then
 some r378.2
 else some true
 else bif (!(decide ((gi r371.2.2.2 5) = 0))) then
 bif (decide ((gi r371.2.2.2 1) < 1)) then
 some false
 else bif (!(decide ((gi r371.2.2.2 2) = (gi r371.2.2.2 0)))) then
 some false
 else bif (decide ((gi r371.2.2.2 5) = 2)) then
 bif (!(decide ((gi r371.2.2.2 6) = (gi r371.2.2.2 0)))) then
 some false
 else Option.bind (ZL ((r371.2.1 - 0).toNat + 1) r371.2.1 0 (Zc r371.2.2.2)) fun r379 =>
 bif (Nat.beq r379.1 0) then
 some r379.2
 else some true
 else Option.bind (ZL ((r371.2.1 - 0).toNat + 1) r371.2.1 0 (Zc r371.2.2.2)) fun r380 =>
 bif (Nat.beq r380.1 0) then
 some r380.2
 else some true
 else bif (decide ((gi r371.2.2.2 5) = 2)) then
 bif (!(decide ((gi r371.2.2.2 6) = (gi r371.2.2.2 0)))) then
 some false
 else Option.bind (ZL ((r371.2.1 - 0).toNat + 1) r371.2.1 0 (Zc r371.2.2.2)) fun r381 =>
 bif (Nat.beq r381.1 0) then
 some r381.2
 else some true
 else Option.bind (ZL ((r371.2.1 - 0).toNat + 1) r371.2.1 0 (Zc r371.2.2.2)) fun r382 =>
 bif (Nat.beq r382.1 0) then
 some r382.2
 else some true
def Zz : Nat → Int → List V → Int → Int → V → Option (Nat × Bool × V)
 | 0, _, _, _, _, _ => none
 | k_ + 1, term3, v109, v110, v111, b0 =>
 bif (decide (v111 < v110)) then
 bif (Zq v111 v109.length) then
 Option.bind (ZcN (Zp (rd v109 v111.toNat))) fun r384 =>
 bif (!r384) then
 some (0, false, (Zj b0))
 else bif (!(Zo (gi (rd v109 v111.toNat) 0) term3 (gi b0 3))) then
 some (0, false, (Zj b0))
 else Zz k_ (gi (rd v109 v111.toNat) 0) v109 v110 (IntKind.i64.wrap (v111 + 1)) (Zj b0)
 else none
 else some (1, false, (Zj b0))
def Zdl (m : V) : Option (Bool) :=
 bif (!(Zo (gi m 0) 0 3)) then
 some false
 else bif (!(Zo (gi m 1) 0 4)) then
 some false
 else bif (!(Zo (gi m 2) 0 4)) then
 some false
 else bif (decide ((gi m 1) = (gi m 2))) then
 some false
 else bif (!(Zc7 (gi m 3))) then
 some false
 else bif (!(decide ((gi m 0) = 2))) then
 bif (decide ((0 : Int) < (((gl m 6).length : Nat) : Int))) then
 some false
 else bif (!(decide ((gi m 7) = 0))) then
 some false
 else bif (decide ((gi m 0) = 1)) then
 bif (!(decide ((gi m 4) = 0))) then
 some false
 else bif (decide ((gi m 0) = 1)) then
 bif (decide ((gi m 5) = 0)) then
 some (Zo (gi m 4) 0 400)
 else some false
 else bif (decide ((gi m 0) = 3)) then
 bif (decide ((gi m 5) = 0)) then
 some (Zo (gi m 4) 0 400)
 else some false
 else bif (gb m 8) then
 some false
 else bif (!(Zo (gi m 4) 0 400)) then
 some false
 else bif (decide ((gi m 4) = 0)) then
 bif (!(decide ((gi m 5) = 0))) then
 some false
 else bif (decide ((0 : Int) < (gi m 4))) then
 bif (!(Zo (gi m 5) 1 (gi m 3))) then
 some false
 else Option.bind (Zz (((((gl m 6).length : Nat) : Int) - 0).toNat + 1) (gi m 5) (gl m 6) (((gl m 6).length : Nat) : Int) 0 (Zj m)) fun r385 =>
 bif (Nat.beq r385.1 0) then
 some r385.2.1
 else bif (decide ((((gl r385.2.2 6).length : Nat) : Int) ≤ 4)) then
 bif (decide ((((gl r385.2.2 6).length : Nat) : Int) ≤ (IntKind.i64.wrap (400 - (gi r385.2.2 4))))) then
 some (Zo (gi r385.2.2 7) 0 400)
 else some false
 else some false
 else Option.bind (Zz (((((gl m 6).length : Nat) : Int) - 0).toNat + 1) (gi m 5) (gl m 6) (((gl m 6).length : Nat) : Int) 0 (Zj m)) fun r386 =>
 bif (Nat.beq r386.1 0) then
 some r386.2.1
 else bif (decide ((((gl r386.2.2 6).length : Nat) : Int) ≤ 4)) then
 bif (decide ((((gl r386.2.2 6).length : Nat) : Int) ≤ (IntKind.i64.wrap (400 - (gi r386.2.2 4))))) then
 some (Zo (gi r386.2.2 7) 0 400)
 else some false
 else some false
 else bif (decide ((0 : Int) < (gi m 4))) then
 bif (!(Zo (gi m 5) 1 (gi m 3))) then
 some false
 else Option.bind (Zz (((((gl m 6).length : Nat) : Int) - 0).toNat + 1) (gi m 5) (gl m 6) (((gl m 6).length : Nat) : Int) 0 (Zj m)) fun r387 =>
 bif (Nat.beq r387.1 0) then
 some r387.2.1
 else bif (decide ((((gl r387.2.2 6).length : Nat) : Int) ≤ 4)) then
 bif (decide ((((gl r387.2.2 6).length : Nat) : Int) ≤ (IntKind.i64.wrap (400 - (gi r387.2.2 4))))) then
 some (Zo (gi r387.2.2 7) 0 400)
 else some false
 else some false
 else Option.bind (Zz (((((gl m 6).length : Nat) : Int) - 0).toNat + 1) (gi m 5) (gl m 6) (((gl m 6).length : Nat) : Int) 0 (Zj m)) fun r388 =>
 bif (Nat.beq r388.1 0) then
 some r388.2.1
 else bif (decide ((((gl r388.2.2 6).length : Nat) : Int) ≤ 4)) then
 bif (decide ((((gl r388.2.2 6).length : Nat) : Int) ≤ (IntKind.i64.wrap (400 - (gi r388.2.2 4))))) then
 some (Zo (gi r388.2.2 7) 0 400)
 else some false
 else some false
 else bif (decide ((gi m 0) = 1)) then
 bif (decide ((gi m 5) = 0)) then
 some (Zo (gi m 4) 0 400)
 else some false
 else bif (decide ((gi m 0) = 3)) then
 bif (decide ((gi m 5) = 0)) then
 some (Zo (gi m 4) 0 400)
 else some false
 else bif (gb m 8) then
 some false
 else bif (!(Zo (gi m 4) 0 400)) then
 some false
 else bif (decide ((gi m 4) = 0)) then
 bif (!(decide ((gi m 5) = 0))) then
 some false
 else bif (decide ((0 : Int) < (gi m 4))) then
 bif (!(Zo (gi m 5) 1 (gi m 3))) then
 some false
 else Option.bind (Zz (((((gl m 6).length : Nat) : Int) - 0).toNat + 1) (gi m 5) (gl m 6) (((gl m 6).length : Nat) : Int) 0 (Zj m)) fun r389 =>
 bif (Nat.beq r389.1 0) then
 some r389.2.1
 else bif (decide ((((gl r389.2.2 6).length : Nat) : Int) ≤ 4)) then
 bif (decide ((((gl r389.2.2 6).length : Nat) : Int) ≤ (IntKind.i64.wrap (400 - (gi r389.2.2 4))))) then
 some (Zo (gi r389.2.2 7) 0 400)
 else some false
 else some false
 else Option.bind (Zz (((((gl m 6).length : Nat) : Int) - 0).toNat + 1) (gi m 5) (gl m 6) (((gl m 6).length : Nat) : Int) 0 (Zj m)) fun r390 =>
 bif (Nat.beq r390.1 0) then
 some r390.2.1
 else bif (decide ((((gl r390.2.2 6).length : Nat) : Int) ≤ 4)) then
 bif (decide ((((gl r390.2.2 6).length : Nat) : Int) ≤ (IntKind.i64.wrap (400 - (gi r390.2.2 4))))) then
 some (Zo (gi r390.2.2 7) 0 400)
 else some false
 else some false
 else bif (decide ((0 : Int) < (gi m 4))) then
 bif (!(Zo (gi m 5) 1 (gi m 3))) then
 some false
 else Option.bind (Zz (((((gl m 6).length : Nat) : Int) - 0).toNat + 1) (gi m 5) (gl m 6) (((gl m 6).length : Nat) : Int) 0 (Zj m)) fun r391 =>
 bif (Nat.beq r391.1 0) then
 some r391.2.1
 else bif (decide ((((gl r391.2.2 6).length : Nat) : Int) ≤ 4)) then
 bif (decide ((((gl r391.2.2 6).length : Nat) : Int) ≤ (IntKind.i64.wrap (400 - (gi r391.2.2 4))))) then
 some (Zo (gi r391.2.2 7) 0 400)
 else some false
 else some false
 else Option.bind (Zz (((((gl m 6).length : Nat) : Int) - 0).toNat + 1) (gi m 5) (gl m 6) (((gl m 6).length : Nat) : Int) 0 (Zj m)) fun r392 =>
 bif (Nat.beq r392.1 0) then
 some r392.2.1
 else bif (decide ((((gl r392.2.2 6).length : Nat) : Int) ≤ 4)) then
 bif (decide ((((gl r392.2.2 6).length : Nat) : Int) ≤ (IntKind.i64.wrap (400 - (gi r392.2.2 4))))) then
 some (Zo (gi r392.2.2 7) 0 400)
 else some false
 else some false
 else bif (decide ((gi m 0) = 1)) then
 bif (!(decide ((gi m 4) = 0))) then
 some false
 else bif (decide ((gi m 0) = 1)) then
 bif (decide ((gi m 5) = 0)) then
 some (Zo (gi m 4) 0 400)
 else some false
 else bif (decide ((gi m 0) = 3)) then
 bif (decide ((gi m 5) = 0)) then
 some (Zo (gi m 4) 0 400)
 else some false
 else bif (gb m 8) then
 some false
 else bif (!(Zo (gi m 4) 0 400)) then
 some false
 else bif (decide ((gi m 4) = 0)) then
 bif (!(decide ((gi m 5) = 0))) then
 some false
 else bif (decide ((0 : Int) < (gi m 4))) then
 bif (!(Zo (gi m 5) 1 (gi m 3))) then
 some false
 else Option.bind (Zz (((((gl m 6).length : Nat) : Int) - 0).toNat + 1) (gi m 5) (gl m 6) (((gl m 6).length : Nat) : Int) 0 (Zj m)) fun r393 =>
 bif (Nat.beq r393.1 0) then
 some r393.2.1
 else bif (decide ((((gl r393.2.2 6).length : Nat) : Int) ≤ 4)) then
 bif (decide ((((gl r393.2.2 6).length : Nat) : Int) ≤ (IntKind.i64.wrap (400 - (gi r393.2.2 4))))) then
 some (Zo (gi r393.2.2 7) 0 400)
 else some false
 else some false
 else Option.bind (Zz (((((gl m 6).length : Nat) : Int) - 0).toNat + 1) (gi m 5) (gl m 6) (((gl m 6).length : Nat) : Int) 0 (Zj m)) fun r394 =>
 bif (Nat.beq r394.1 0) then
 some r394.2.1
 else bif (decide ((((gl r394.2.2 6).length : Nat) : Int) ≤ 4)) then
 bif (decide ((((gl r394.2.2 6).length : Nat) : Int) ≤ (IntKind.i64.wrap (400 - (gi r394.2.2 4))))) then
 some (Zo (gi r394.2.2 7) 0 400)
 else some false
 else some false
 else bif (decide ((0 : Int) < (gi m 4))) then
 bif (!(Zo (gi m 5) 1 (gi m 3))) then
 some false
 else Option.bind (Zz (((((gl m 6).length : Nat) : Int) - 0).toNat + 1) (gi m 5) (gl m 6) (((gl m 6).length : Nat) : Int) 0 (Zj m)) fun r395 =>
 bif (Nat.beq r395.1 0) then
 some r395.2.1
 else bif (decide ((((gl r395.2.2 6).length : Nat) : Int) ≤ 4)) then
 bif (decide ((((gl r395.2.2 6).length : Nat) : Int) ≤ (IntKind.i64.wrap (400 - (gi r395.2.2 4))))) then
 some (Zo (gi r395.2.2 7) 0 400)
 else some false
 else some false
 else Option.bind (Zz (((((gl m 6).length : Nat) : Int) - 0).toNat + 1) (gi m 5) (gl m 6) (((gl m 6).length : Nat) : Int) 0 (Zj m)) fun r396 =>
 bif (Nat.beq r396.1 0) then
 some r396.2.1
 else bif (decide ((((gl r396.2.2 6).length : Nat) : Int) ≤ 4)) then
 bif (decide ((((gl r396.2.2 6).length : Nat) : Int) ≤ (IntKind.i64.wrap (400 - (gi r396.2.2 4))))) then
 some (Zo (gi r396.2.2 7) 0 400)
 else some false
 else some false
 else bif (decide ((gi m 0) = 1)) then
 bif (decide ((gi m 5) = 0)) then
 some (Zo (gi m 4) 0 400)
 else some false
 else bif (decide ((gi m 0) = 3)) then
 bif (decide ((gi m 5) = 0)) then
 some (Zo (gi m 4) 0 400)
 else some false
 else bif (gb m 8) then
 some false
 else bif (!(Zo (gi m 4) 0 400)) then
 some false
 else bif (decide ((gi m 4) = 0)) then
 bif (!(decide ((gi m 5) = 0))) then
 some false
 else bif (decide ((0 : Int) < (gi m 4))) then
 bif (!(Zo (gi m 5) 1 (gi m 3))) then
 some false
 else Option.bind (Zz (((((gl m 6).length : Nat) : Int) - 0).toNat + 1) (gi m 5) (gl m 6) (((gl m 6).length : Nat) : Int) 0 (Zj m)) fun r397 =>
 bif (Nat.beq r397.1 0) then
 some r397.2.1
 else bif (decide ((((gl r397.2.2 6).length : Nat) : Int) ≤ 4)) then
 bif (decide ((((gl r397.2.2 6).length : Nat) : Int) ≤ (IntKind.i64.wrap (400 - (gi r397.2.2 4))))) then
 some (Zo (gi r397.2.2 7) 0 400)
 else some false
 else some false
 else Option.bind (Zz (((((gl m 6).length : Nat) : Int) - 0).toNat + 1) (gi m 5) (gl m 6) (((gl m 6).length : Nat) : Int) 0 (Zj m)) fun r398 =>
 bif (Nat.beq r398.1 0) then
 some r398.2.1
 else bif (decide ((((gl r398.2.2 6).length : Nat) : Int) ≤ 4)) then
 bif (decide ((((gl r398.2.2 6).length : Nat) : Int) ≤ (IntKind.i64.wrap (400 - (gi r398.2.2 4))))) then
 some (Zo (gi r398.2.2 7) 0 400)
 else some false
 else some false
 else bif (decide ((0 : Int) < (gi m 4))) then
 bif (!(Zo (gi m 5) 1 (gi m 3))) then
 some false
 else Option.bind (Zz (((((gl m 6).length : Nat) : Int) - 0).toNat + 1) (gi m 5) (gl m 6) (((gl m 6).length : Nat) : Int) 0 (Zj m)) fun r399 =>
 bif (Nat.beq r399.1 0) then
 some r399.2.1
 else bif (decide ((((gl r399.2.2 6).length : Nat) : Int) ≤ 4)) then
 bif (decide ((((gl r399.2.2 6).length : Nat) : Int) ≤ (IntKind.i64.wrap (400 - (gi r399.2.2 4))))) then
 some (Zo (gi r399.2.2 7) 0 400)
 else some false
 else some false
 else Option.bind (Zz (((((gl m 6).length : Nat) : Int) - 0).toNat + 1) (gi m 5) (gl m 6) (((gl m 6).length : Nat) : Int) 0 (Zj m)) fun r400 =>
 bif (Nat.beq r400.1 0) then
 some r400.2.1
 else bif (decide ((((gl r400.2.2 6).length : Nat) : Int) ≤ 4)) then
 bif (decide ((((gl r400.2.2 6).length : Nat) : Int) ≤ (IntKind.i64.wrap (400 - (gi r400.2.2 4))))) then
 some (Zo (gi r400.2.2 7) 0 400)
 else some false
 else some false
def Zby (s : List V) : Option (List V) :=
 bif ((Z1 (0 + s.length) 1) && true) then
 some s
 else none
def Zeb (o : V) : Option (V) :=
 Option.bind (Zby (gl o 1)) fun r402 =>
 Option.bind (Zby (gl o 2)) fun r403 =>
 some (V.agg [(V.int .i64 (gi o 0)), (V.inl Zf r402), (V.inl Zf r403), (V.int .i64 (gi o 3))])
def Zbu (c : V) : Option (V) :=
 Option.bind (Zeb (V.agg [(V.int .i64 (gi c 2)), (V.inl Zf (gl c 3)), (V.inl Zf (gl c 4)), (V.int .i64 (gi c 5))])) fun r404 =>
 some (V.agg [(V.int .i64 (gi c 0)), (V.int .i64 (gi c 1)), (V.int .i64 (gi r404 0)), (V.inl Zf (gl r404 1)), (V.inl Zf (gl r404 2)), (V.int .i64 (gi r404 3))])
def Zbk : Nat → List V → Int → Int → List V → Option (List V)
 | 0, _, _, _, _ => none
 | k_ + 1, v6, v7, v8, r0 =>
 bif (decide (v8 < v7)) then
 bif (Zq v8 v6.length) then
 Option.bind (Zbu (V.agg [(V.int .i64 (gi (rd v6 v8.toNat) 1)), (V.int .i64 (gi (rd v6 v8.toNat) 2)), (V.int .i64 (gi (rd v6 v8.toNat) 3)), (V.inl Zf (gl (rd v6 v8.toNat) 4)), (V.inl Zf (gl (rd v6 v8.toNat) 5)), (V.int .i64 (gi (rd v6 v8.toNat) 6))])) fun r405 =>
 bif ((Z1 (r0.length + 1) 88) && true) then
 Zbk k_ v6 v7 (IntKind.i64.wrap (v8 + 1)) (r0 ++ [(V.agg [(V.int .i64 (gi (rd v6 v8.toNat) 0)), (V.int .i64 (gi r405 0)), (V.int .i64 (gi r405 1)), (V.int .i64 (gi r405 2)), (V.inl Zf (gl r405 3)), (V.inl Zf (gl r405 4)), (V.int .i64 (gi r405 5))])])
 else none
 else none
 else some r0
def Zc2 (list : List V) : Option (List V) :=
 Option.bind (Zbk ((((list.length : Nat) : Int) - 0).toNat + 1) list ((list.length : Nat) : Int) 0 []) fun r406 =>
 some r406
def Zb0 (s : List V) : Option (List V) :=
 bif ((Z1 (0 + s.length) 1) && true) then
 some s
 else none
def ZbG (s : List V) : Option (List V) :=
 bif ((Z1 (0 + s.length) 8) && true) then
 some s
 else none
def ZdA (n : V) : Option (V) :=
 Option.bind (Zc2 (gl n 3)) fun r407 =>
 Option.bind (Zb0 (gl n 8)) fun r408 =>
 Option.bind (ZbG (gl n 9)) fun r409 =>
 Option.bind (ZbG (gl n 10)) fun r410 =>
 some (V.agg [(V.int .i64 (gi n 0)), (V.int .i64 (gi n 1)), (V.int .i64 (gi n 2)), (V.inl Zb r407), (V.int .i64 (gi n 4)), (V.int .i64 (gi n 5)), (V.int .i64 (gi n 6)), (V.int .i64 (gi n 7)), (V.inl Zi r408), (V.inl Ze r409), (V.inl Ze r410)])
def Zd (s : V) (term_ : Int) : V :=
 bif (decide ((gi s 1) < term_)) then
 (V.agg [(V.int .i64 (gi s 0)), (V.int .i64 term_), (V.int .i64 (-1)), (V.inl Zb (gl s 3)), (V.int .i64 (gi s 4)), (V.int .i64 0), (V.int .i64 (-1)), (V.int .i64 (gi s 7)), (V.inl Zi ((List.replicate ((gl s 8).length) (V.bool false)) ++ ((gl s 8).drop (0 + ((gl s 8).length))))), (V.inl Ze ((List.replicate ((gl s 9).length) (V.int .i64 0)) ++ ((gl s 9).drop (0 + ((gl s 9).length))))), (V.inl Ze ((List.replicate ((gl s 10).length) (V.int .i64 0)) ++ ((gl s 10).drop (0 + ((gl s 10).length))))), (V.inl Zk (gl s 11))])
 else (V.agg [(V.int .i64 (gi s 0)), (V.int .i64 (gi s 1)), (V.int .i64 (gi s 2)), (V.inl Zb (gl s 3)), (V.int .i64 (gi s 4)), (V.int .i64 0), (V.int .i64 (gi s 6)), (V.int .i64 (gi s 7)), (V.inl Zi ((List.replicate ((gl s 8).length) (V.bool false)) ++ ((gl s 8).drop (0 + ((gl s 8).length))))), (V.inl Ze ((List.replicate ((gl s 9).length) (V.int .i64 0)) ++ ((gl s 9).drop (0 + ((gl s 9).length))))), (V.inl Ze ((List.replicate ((gl s 10).length) (V.int .i64 0)) ++ ((gl s 10).drop (0 + ((gl s 10).length))))), (V.inl Zk (gl s 11))])
def Zad (n : V) (ZQ : Int) : Option (Int) :=
 bif (!(Zo ZQ 1 (((gl n 3).length : Nat) : Int))) then
 some 0
 else bif (Zq (IntKind.i64.wrap (ZQ - 1)) ((gl n 3).length)) then
 some (gi (rd (gl n 3) ((IntKind.i64.wrap (ZQ - 1)).toNat)) 0)
 else none
def ZbP (n : V) : Option (Int) :=
 Option.bind (Zad (Zc n) (((gl n 3).length : Nat) : Int)) fun r412 =>
 some r412
def Zbv (n : V) (ZQ : Int) (term_ : Int) : Option (Bool) :=
 Option.bind (ZbP (Zc n)) fun r413 =>
 bif (decide (r413 < term_)) then
 some true
 else Option.bind (ZbP (Zc n)) fun r414 =>
 bif (decide (term_ = r414)) then
 some (decide ((((gl n 3).length : Nat) : Int) ≤ ZQ))
 else some false
def ZcS (n : V) (count : Int) : Bool :=
 (decide ((((gl n 8).length : Nat) : Int) < (IntKind.i64.wrap (2 * count))))
def Z0 : Nat → Int → Int → Int → Int → V → List V → List V → List V → List V → List V → Option (Int × Int × V × List V × List V × List V × List V × List V)
 | 0, _, _, _, _, _, _, _, _, _, _ => none
 | k_ + 1, place2, count3, v61, v62, b0, r1, r2, r3, r4, r5 =>
 bif (decide (v62 < v61)) then
 bif (Zq v62 r1.length) then
 bif (decide (place2 ≤ (gi (rd r1 (0 + v62.toNat)) 0))) then
 Z0 k_ place2 (IntKind.i64.wrap (count3 + 1)) v61 (IntKind.i64.wrap (v62 + 1)) (V.agg [(V.int .i64 (gi b0 0)), (V.int .i64 (gi b0 1)), (V.int .i64 (gi b0 2)), (V.sl 2 Zb 0 none), (V.int .i64 (gi b0 4)), (V.int .i64 (gi b0 5)), (V.int .i64 (gi b0 6)), (V.int .i64 (gi b0 7)), (V.sl 3 Zi 0 none), (V.sl 4 Ze 0 none), (V.sl 1 Ze 0 none), (V.sl 5 Zk 0 none)]) r1 r2 r3 r4 r5
 else Z0 k_ place2 count3 v61 (IntKind.i64.wrap (v62 + 1)) (V.agg [(V.int .i64 (gi b0 0)), (V.int .i64 (gi b0 1)), (V.int .i64 (gi b0 2)), (V.sl 2 Zb 0 none), (V.int .i64 (gi b0 4)), (V.int .i64 (gi b0 5)), (V.int .i64 (gi b0 6)), (V.int .i64 (gi b0 7)), (V.sl 3 Zi 0 none), (V.sl 4 Ze 0 none), (V.sl 1 Ze 0 none), (V.sl 5 Zk 0 none)]) r1 r2 r3 r4 r5
 else none
 else some (place2, count3, (V.agg [(V.int .i64 (gi b0 0)), (V.int .i64 (gi b0 1)), (V.int .i64 (gi b0 2)), (V.sl 1 Zb 0 none), (V.int .i64 (gi b0 4)), (V.int .i64 (gi b0 5)), (V.int .i64 (gi b0 6)), (V.int .i64 (gi b0 7)), (V.sl 2 Zi 0 none), (V.sl 3 Ze 0 none), (V.sl 4 Ze 0 none), (V.sl 5 Zk 0 none)]), r2, r3, r4, r1, r5)
def Z9 : Nat → Int → V → List V → List V → List V → List V → List V → Option (Nat × V × List V × List V × List V × List V × List V)
 | 0, _, _, _, _, _, _, _ => none
 | k_ + 1, place2, b0, r1, r2, r3, r4, r5 =>
 bif (decide ((gi b0 4) < place2)) then
 Option.bind (Z0 ((((r4.length : Nat) : Int) - 0).toNat + 1) place2 0 ((r4.length : Nat) : Int) 0 (V.agg [(V.int .i64 (gi b0 0)), (V.int .i64 (gi b0 1)), (V.int .i64 (gi b0 2)), (V.sl 2 Zb 0 none), (V.int .i64 (gi b0 4)), (V.int .i64 (gi b0 5)), (V.int .i64 (gi b0 6)), (V.int .i64 (gi b0 7)), (V.sl 3 Zi 0 none), (V.sl 4 Ze 0 none), (V.sl 1 Ze 0 none), (V.sl 5 Zk 0 none)]) r4 r1 r2 r3 r5) fun r419 =>
 Option.bind (Zad (V.agg [(V.int .i64 (gi r419.2.2.1 0)), (V.int .i64 (gi r419.2.2.1 1)), (V.int .i64 (gi r419.2.2.1 2)), (V.inl Zb r419.2.2.2.1), (V.int .i64 (gi r419.2.2.1 4)), (V.int .i64 (gi r419.2.2.1 5)), (V.int .i64 (gi r419.2.2.1 6)), (V.int .i64 (gi r419.2.2.1 7)), (V.inl Zi r419.2.2.2.2.1), (V.inl Ze r419.2.2.2.2.2.1), (V.inl Ze r419.2.2.2.2.2.2.1)]) r419.1) fun r420 =>
 bif (decide (r420 = (gi r419.2.2.1 1))) then
 bif ZcS (V.agg [(V.int .i64 (gi r419.2.2.1 0)), (V.int .i64 (gi r419.2.2.1 1)), (V.int .i64 (gi r419.2.2.1 2)), (V.inl Zb r419.2.2.2.1), (V.int .i64 (gi r419.2.2.1 4)), (V.int .i64 (gi r419.2.2.1 5)), (V.int .i64 (gi r419.2.2.1 6)), (V.int .i64 (gi r419.2.2.1 7)), (V.inl Zi r419.2.2.2.2.1), (V.inl Ze r419.2.2.2.2.2.1), (V.inl Ze r419.2.2.2.2.2.2.1)]) r419.2.1 then
 some (0, (V.agg [(V.int .i64 (gi r419.2.2.1 0)), (V.int .i64 (gi r419.2.2.1 1)), (V.int .i64 (gi r419.2.2.1 2)), (V.sl 1 Zb 0 none), (V.int .i64 r419.1), (V.int .i64 (gi r419.2.2.1 5)), (V.int .i64 (gi r419.2.2.1 6)), (V.int .i64 (gi r419.2.2.1 7)), (V.sl 2 Zi 0 none), (V.sl 3 Ze 0 none), (V.sl 4 Ze 0 none), (V.sl 5 Zk 0 none)]), r419.2.2.2.1, r419.2.2.2.2.1, r419.2.2.2.2.2.1, r419.2.2.2.2.2.2.1, r419.2.2.2.2.2.2.2)
 else Z9 k_ (IntKind.i64.wrap (r419.1 - 1)) (V.agg [(V.int .i64 (gi r419.2.2.1 0)), (V.int .i64 (gi r419.2.2.1 1)), (V.int .i64 (gi r419.2.2.1 2)), (V.sl 1 Zb 0 none), (V.int .i64 (gi r419.2.2.1 4)), (V.int .i64 (gi r419.2.2.1 5)), (V.int .i64 (gi r419.2.2.1 6)), (V.int .i64 (gi r419.2.2.1 7)), (V.sl 2 Zi 0 none), (V.sl 3 Ze 0 none), (V.sl 4 Ze 0 none), (V.sl 5 Zk 0 none)]) r419.2.2.2.1 r419.2.2.2.2.1 r419.2.2.2.2.2.1 r419.2.2.2.2.2.2.1 r419.2.2.2.2.2.2.2
 else Z9 k_ (IntKind.i64.wrap (r419.1 - 1)) (V.agg [(V.int .i64 (gi r419.2.2.1 0)), (V.int .i64 (gi r419.2.2.1 1)), (V.int .i64 (gi r419.2.2.1 2)), (V.sl 1 Zb 0 none), (V.int .i64 (gi r419.2.2.1 4)), (V.int .i64 (gi r419.2.2.1 5)), (V.int .i64 (gi r419.2.2.1 6)), (V.int .i64 (gi r419.2.2.1 7)), (V.sl 2 Zi 0 none), (V.sl 3 Ze 0 none), (V.sl 4 Ze 0 none), (V.sl 5 Zk 0 none)]) r419.2.2.2.1 r419.2.2.2.2.1 r419.2.2.2.2.2.1 r419.2.2.2.2.2.2.1 r419.2.2.2.2.2.2.2
 else some (1, (V.agg [(V.int .i64 (gi b0 0)), (V.int .i64 (gi b0 1)), (V.int .i64 (gi b0 2)), (V.sl 1 Zb 0 none), (V.int .i64 (gi b0 4)), (V.int .i64 (gi b0 5)), (V.int .i64 (gi b0 6)), (V.int .i64 (gi b0 7)), (V.sl 2 Zi 0 none), (V.sl 3 Ze 0 none), (V.sl 4 Ze 0 none), (V.sl 5 Zk 0 none)]), r1, r2, r3, r4, r5)
def ZaY (s : V) : Option (V) :=
 bif (Zq (gi s 0) ((gl s 10).length)) then
 bif (Zq (gi s 0) ((gl s 9).length)) then
 Option.bind (Z9 (((((gl s 3).length : Nat) : Int) - (gi (V.agg [(V.int .i64 (gi s 0)), (V.int .i64 (gi s 1)), (V.int .i64 (gi s 2)), (V.sl 1 Zb 0 none), (V.int .i64 (gi s 4)), (V.int .i64 (gi s 5)), (V.int .i64 (gi s 6)), (V.int .i64 (gi s 7)), (V.sl 2 Zi 0 none), (V.sl 3 Ze 0 none), (V.sl 4 Ze 0 none), (V.sl 5 Zk 0 none)]) 4)).toNat + 1) (((gl s 3).length : Nat) : Int) (V.agg [(V.int .i64 (gi s 0)), (V.int .i64 (gi s 1)), (V.int .i64 (gi s 2)), (V.sl 1 Zb 0 none), (V.int .i64 (gi s 4)), (V.int .i64 (gi s 5)), (V.int .i64 (gi s 6)), (V.int .i64 (gi s 7)), (V.sl 2 Zi 0 none), (V.sl 3 Ze 0 none), (V.sl 4 Ze 0 none), (V.sl 5 Zk 0 none)]) (gl s 3) (gl s 8) ((gl s 9).set (0 + ((gi s 0).toNat)) (V.int .i64 (IntKind.i64.wrap ((((gl s 3).length : Nat) : Int) + 1)))) ((gl s 10).set (0 + ((gi s 0).toNat)) (V.int .i64 (((gl s 3).length : Nat) : Int))) (gl s 11)) fun r421 =>
 bif (Nat.beq r421.1 0) then
 some (V.agg [(V.int .i64 (gi r421.2.1 0)), (V.int .i64 (gi r421.2.1 1)), (V.int .i64 (gi r421.2.1 2)), (V.inl Zb r421.2.2.1), (V.int .i64 (gi r421.2.1 4)), (V.int .i64 (gi r421.2.1 5)), (V.int .i64 (gi r421.2.1 6)), (V.int .i64 (gi r421.2.1 7)), (V.inl Zi r421.2.2.2.1), (V.inl Ze r421.2.2.2.2.1), (V.inl Ze r421.2.2.2.2.2.1), (V.inl Zk r421.2.2.2.2.2.2)])
 else some (V.agg [(V.int .i64 (gi r421.2.1 0)), (V.int .i64 (gi r421.2.1 1)), (V.int .i64 (gi r421.2.1 2)), (V.inl Zb r421.2.2.1), (V.int .i64 (gi r421.2.1 4)), (V.int .i64 (gi r421.2.1 5)), (V.int .i64 (gi r421.2.1 6)), (V.int .i64 (gi r421.2.1 7)), (V.inl Zi r421.2.2.2.1), (V.inl Ze r421.2.2.2.2.1), (V.inl Ze r421.2.2.2.2.2.1), (V.inl Zk r421.2.2.2.2.2.2)])
 else none
 else none
def Z6 : Nat → Int → Int → V → List V → Option (List V)
 | 0, _, _, _, _ => none
 | k_ + 1, v7, v8, b0, r1 =>
 bif (decide (v8 < v7)) then
 bif (!(decide (v8 = (gi b0 0)))) then
 bif ((Z1 (r1.length + 1) 8) && true) then
 Z6 k_ v7 (IntKind.i64.wrap (v8 + 1)) (Zc b0) (r1 ++ [(V.int .i64 v8)])
 else none
 else Z6 k_ v7 (IntKind.i64.wrap (v8 + 1)) (Zc b0) r1
 else some r1
def Zbl (n : V) : Option (List V) :=
 Option.bind (Z6 (((((gl n 8).length : Nat) : Int) - 0).toNat + 1) (((gl n 8).length : Nat) : Int) 0 (Zc n) []) fun r423 =>
 some r423
def Zb1 (n : V) (to : Int) : Option (V) :=
 bif (Zq to ((gl n 9).length)) then
 bif ((decide ((0 : Int) ≤ (mnI (((gl n 3).length : Nat) : Int) (IntKind.i64.wrap ((IntKind.i64.wrap ((gi (rd (gl n 9) to.toNat) 0) - 1)) + 4))))) && (decide ((mnI (((gl n 3).length : Nat) : Int) (IntKind.i64.wrap ((IntKind.i64.wrap ((gi (rd (gl n 9) to.toNat) 0) - 1)) + 4))) ≤ (((gl n 3).length : Nat) : Int)))) then
 bif ((decide ((0 : Int) ≤ (IntKind.i64.wrap ((gi (rd (gl n 9) to.toNat) 0) - 1)))) && (decide ((IntKind.i64.wrap ((gi (rd (gl n 9) to.toNat) 0) - 1)) ≤ (((mnI (((gl n 3).length : Nat) : Int) (IntKind.i64.wrap ((IntKind.i64.wrap ((gi (rd (gl n 9) to.toNat) 0) - 1)) + 4))).toNat : Nat) : Int)))) then
 Option.bind (Zad (Zc n) (IntKind.i64.wrap ((gi (rd (gl n 9) to.toNat) 0) - 1))) fun r425 =>
 Option.bind (Zc2 (((gl n 3).drop ((IntKind.i64.wrap ((gi (rd (gl n 9) to.toNat) 0) - 1)).toNat)).take (((mnI (((gl n 3).length : Nat) : Int) (IntKind.i64.wrap ((IntKind.i64.wrap ((gi (rd (gl n 9) to.toNat) 0) - 1)) + 4))).toNat) - ((IntKind.i64.wrap ((gi (rd (gl n 9) to.toNat) 0) - 1)).toNat)))) fun r426 =>
 some (V.agg [(V.int .i64 2), (V.int .i64 (gi n 0)), (V.int .i64 to), (V.int .i64 (gi n 1)), (V.int .i64 (IntKind.i64.wrap ((gi (rd (gl n 9) to.toNat) 0) - 1))), (V.int .i64 r425), (V.inl Zb r426), (V.int .i64 (gi n 4)), (V.bool false)])
 else none
 else none
 else none
def Zbm (s : V) (to : Int) : Option (V) :=
 Option.bind (Zb1 (Zc s) to) fun r427 =>
 bif ((Z1 (((gl s 11).length) + 1) 88) && true) then
 some (V.agg [(V.int .i64 (gi s 0)), (V.int .i64 (gi s 1)), (V.int .i64 (gi s 2)), (V.inl Zb (gl s 3)), (V.int .i64 (gi s 4)), (V.int .i64 (gi s 5)), (V.int .i64 (gi s 6)), (V.int .i64 (gi s 7)), (V.inl Zi (gl s 8)), (V.inl Ze (gl s 9)), (V.inl Ze (gl s 10)), (V.inl Zk ((gl s 11) ++ [(Zj r427)]))])
 else none
def Zaa : Nat → Int → Int → V → List V → List V → List V → List V → List V → List V → Option (V × List V × List V × List V × List V × List V)
 | 0, _, _, _, _, _, _, _, _, _ => none
 | k_ + 1, v9, v10, b0, r1, r2, r3, r4, r5, r6 =>
 bif (decide (v10 < v9)) then
 bif (Zq v10 r1.length) then
 Option.bind (Zbm (V.agg [(V.int .i64 (gi b0 0)), (V.int .i64 (gi b0 1)), (V.int .i64 (gi b0 2)), (V.inl Zb r2), (V.int .i64 (gi b0 4)), (V.int .i64 (gi b0 5)), (V.int .i64 (gi b0 6)), (V.int .i64 (gi b0 7)), (V.inl Zi r3), (V.inl Ze r4), (V.inl Ze r5), (V.inl Zk r6)]) (gi (rd r1 (0 + v10.toNat)) 0)) fun r428 =>
 Zaa k_ v9 (IntKind.i64.wrap (v10 + 1)) (V.agg [(V.int .i64 (gi r428 0)), (V.int .i64 (gi r428 1)), (V.int .i64 (gi r428 2)), (V.sl 2 Zb 0 none), (V.int .i64 (gi r428 4)), (V.int .i64 (gi r428 5)), (V.int .i64 (gi r428 6)), (V.int .i64 (gi r428 7)), (V.sl 3 Zi 0 none), (V.sl 4 Ze 0 none), (V.sl 5 Ze 0 none), (V.sl 6 Zk 0 none)]) r1 (gl r428 3) (gl r428 8) (gl r428 9) (gl r428 10) (gl r428 11)
 else none
 else some ((V.agg [(V.int .i64 (gi b0 0)), (V.int .i64 (gi b0 1)), (V.int .i64 (gi b0 2)), (V.sl 1 Zb 0 none), (V.int .i64 (gi b0 4)), (V.int .i64 (gi b0 5)), (V.int .i64 (gi b0 6)), (V.int .i64 (gi b0 7)), (V.sl 2 Zi 0 none), (V.sl 3 Ze 0 none), (V.sl 4 Ze 0 none), (V.sl 5 Zk 0 none)]), r2, r3, r4, r5, r6)
def ZaZ (s : V) : Option (V) :=
 Option.bind (Zbl (Zc s)) fun r424 =>
 Option.bind (Zaa ((((r424.length : Nat) : Int) - 0).toNat + 1) ((r424.length : Nat) : Int) 0 (V.agg [(V.int .i64 (gi s 0)), (V.int .i64 (gi s 1)), (V.int .i64 (gi s 2)), (V.sl 2 Zb 0 none), (V.int .i64 (gi s 4)), (V.int .i64 (gi s 5)), (V.int .i64 (gi s 6)), (V.int .i64 (gi s 7)), (V.sl 3 Zi 0 none), (V.sl 4 Ze 0 none), (V.sl 5 Ze 0 none), (V.sl 6 Zk 0 none)]) r424 (gl s 3) (gl s 8) (gl s 9) (gl s 10) (gl s 11)) fun r429 =>
 some (V.agg [(V.int .i64 (gi r429.1 0)), (V.int .i64 (gi r429.1 1)), (V.int .i64 (gi r429.1 2)), (V.inl Zb r429.2.1), (V.int .i64 (gi r429.1 4)), (V.int .i64 (gi r429.1 5)), (V.int .i64 (gi r429.1 6)), (V.int .i64 (gi r429.1 7)), (V.inl Zi r429.2.2.1), (V.inl Ze r429.2.2.2.1), (V.inl Ze r429.2.2.2.2.1), (V.inl Zk r429.2.2.2.2.2)])
def Zai : Nat → Int → Int → Int → V → List V → List V → List V → List V → List V → Option (Int × V × List V × List V × List V × List V × List V)
 | 0, _, _, _, _, _, _, _, _, _ => none
 | k_ + 1, count2, v11, v12, b0, r1, r2, r3, r4, r5 =>
 bif (decide (v12 < v11)) then
 bif (Zq v12 r1.length) then
 bif (gb (rd r1 (0 + v12.toNat)) 0) then
 Zai k_ (IntKind.i64.wrap (count2 + 1)) v11 (IntKind.i64.wrap (v12 + 1)) (V.agg [(V.int .i64 (gi b0 0)), (V.int .i64 (gi b0 1)), (V.int .i64 (gi b0 2)), (V.sl 2 Zb 0 none), (V.int .i64 (gi b0 4)), (V.int .i64 (gi b0 5)), (V.int .i64 (gi b0 6)), (V.int .i64 (gi b0 7)), (V.sl 1 Zi 0 none), (V.sl 3 Ze 0 none), (V.sl 4 Ze 0 none), (V.sl 5 Zk 0 none)]) r1 r2 r3 r4 r5
 else Zai k_ count2 v11 (IntKind.i64.wrap (v12 + 1)) (V.agg [(V.int .i64 (gi b0 0)), (V.int .i64 (gi b0 1)), (V.int .i64 (gi b0 2)), (V.sl 2 Zb 0 none), (V.int .i64 (gi b0 4)), (V.int .i64 (gi b0 5)), (V.int .i64 (gi b0 6)), (V.int .i64 (gi b0 7)), (V.sl 1 Zi 0 none), (V.sl 3 Ze 0 none), (V.sl 4 Ze 0 none), (V.sl 5 Zk 0 none)]) r1 r2 r3 r4 r5
 else none
 else some (count2, (V.agg [(V.int .i64 (gi b0 0)), (V.int .i64 (gi b0 1)), (V.int .i64 (gi b0 2)), (V.sl 1 Zb 0 none), (V.int .i64 (gi b0 4)), (V.int .i64 (gi b0 5)), (V.int .i64 (gi b0 6)), (V.int .i64 (gi b0 7)), (V.sl 2 Zi 0 none), (V.sl 3 Ze 0 none), (V.sl 4 Ze 0 none), (V.sl 5 Zk 0 none)]), r2, r1, r3, r4, r5)
def Zao : Nat → Int → Int → V → List V → List V → List V → List V → List V → Option (V × List V × List V × List V × List V × List V)
 | 0, _, _, _, _, _, _, _, _ => none
 | k_ + 1, v49, v50, b0, r1, r2, r3, r4, r5 =>
 bif (decide (v50 < v49)) then
 bif (Zq v50 r3.length) then
 bif (Zq v50 r4.length) then
 Zao k_ v49 (IntKind.i64.wrap (v50 + 1)) (V.agg [(V.int .i64 (gi b0 0)), (V.int .i64 (gi b0 1)), (V.int .i64 (gi b0 2)), (V.sl 1 Zb 0 none), (V.int .i64 (gi b0 4)), (V.int .i64 (gi b0 5)), (V.int .i64 (gi b0 6)), (V.int .i64 (gi b0 7)), (V.sl 2 Zi 0 none), (V.sl 3 Ze 0 none), (V.sl 4 Ze 0 none), (V.sl 5 Zk 0 none)]) r1 r2 (r3.set (0 + v50.toNat) (V.int .i64 (IntKind.i64.wrap (((r1.length : Nat) : Int) + 1)))) (r4.set (0 + v50.toNat) (V.int .i64 0)) r5
 else none
 else none
 else some ((V.agg [(V.int .i64 (gi b0 0)), (V.int .i64 (gi b0 1)), (V.int .i64 (gi b0 2)), (V.sl 1 Zb 0 none), (V.int .i64 (gi b0 4)), (V.int .i64 (gi b0 5)), (V.int .i64 (gi b0 6)), (V.int .i64 (gi b0 7)), (V.sl 2 Zi 0 none), (V.sl 3 Ze 0 none), (V.sl 4 Ze 0 none), (V.sl 5 Zk 0 none)]), r1, r2, r3, r4, r5)
def Zcl (s : V) : Option (V) :=
 Option.bind (Zai (((((gl s 8).length : Nat) : Int) - 0).toNat + 1) 0 (((gl s 8).length : Nat) : Int) 0 (V.agg [(V.int .i64 (gi s 0)), (V.int .i64 (gi s 1)), (V.int .i64 (gi s 2)), (V.sl 2 Zb 0 none), (V.int .i64 (gi s 4)), (V.int .i64 (gi s 5)), (V.int .i64 (gi s 6)), (V.int .i64 (gi s 7)), (V.sl 1 Zi 0 none), (V.sl 3 Ze 0 none), (V.sl 4 Ze 0 none), (V.sl 5 Zk 0 none)]) (gl s 8) (gl s 3) (gl s 9) (gl s 10) (gl s 11)) fun r417 =>
 bif (!(ZcS (V.agg [(V.int .i64 (gi r417.2.1 0)), (V.int .i64 (gi r417.2.1 1)), (V.int .i64 (gi r417.2.1 2)), (V.inl Zb r417.2.2.1), (V.int .i64 (gi r417.2.1 4)), (V.int .i64 (gi r417.2.1 5)), (V.int .i64 (gi r417.2.1 6)), (V.int .i64 (gi r417.2.1 7)), (V.inl Zi r417.2.2.2.1), (V.inl Ze r417.2.2.2.2.1), (V.inl Ze r417.2.2.2.2.2.1)]) r417.1)) then
 some (V.agg [(V.int .i64 (gi r417.2.1 0)), (V.int .i64 (gi r417.2.1 1)), (V.int .i64 (gi r417.2.1 2)), (V.inl Zb r417.2.2.1), (V.int .i64 (gi r417.2.1 4)), (V.int .i64 (gi r417.2.1 5)), (V.int .i64 (gi r417.2.1 6)), (V.int .i64 (gi r417.2.1 7)), (V.inl Zi r417.2.2.2.1), (V.inl Ze r417.2.2.2.2.1), (V.inl Ze r417.2.2.2.2.2.1), (V.inl Zk r417.2.2.2.2.2.2)])
 else Option.bind (Zao ((((r417.2.2.2.2.1.length : Nat) : Int) - 0).toNat + 1) ((r417.2.2.2.2.1.length : Nat) : Int) 0 (V.agg [(V.int .i64 (gi r417.2.1 0)), (V.int .i64 (gi r417.2.1 1)), (V.int .i64 (gi r417.2.1 2)), (V.sl 1 Zb 0 none), (V.int .i64 (gi r417.2.1 4)), (V.int .i64 2), (V.int .i64 (gi r417.2.1 0)), (V.int .i64 0), (V.sl 2 Zi 0 none), (V.sl 3 Ze 0 none), (V.sl 4 Ze 0 none), (V.sl 5 Zk 0 none)]) r417.2.2.1 r417.2.2.2.1 r417.2.2.2.2.1 r417.2.2.2.2.2.1 r417.2.2.2.2.2.2) fun r418 =>
 bif (decide (((r418.2.1.length : Nat) : Int) < 400)) then
 bif ((Z1 (r418.2.1.length + 1) 88) && true) then
 Option.bind (ZaY (V.agg [(V.int .i64 (gi r418.1 0)), (V.int .i64 (gi r418.1 1)), (V.int .i64 (gi r418.1 2)), (V.inl Zb (r418.2.1 ++ [(V.agg [(V.int .i64 (gi r418.1 1)), (V.int .i64 (gi Zb8 0)), (V.int .i64 (gi Zb8 1)), (V.int .i64 (gi Zb8 2)), (V.inl Zf (gl Zb8 3)), (V.inl Zf (gl Zb8 4)), (V.int .i64 (gi Zb8 5))])])), (V.int .i64 (gi r418.1 4)), (V.int .i64 (gi r418.1 5)), (V.int .i64 (gi r418.1 6)), (V.int .i64 (gi r418.1 7)), (V.inl Zi r418.2.2.1), (V.inl Ze r418.2.2.2.1), (V.inl Ze r418.2.2.2.2.1), (V.inl Zk r418.2.2.2.2.2)])) fun r422 =>
 Option.bind (ZaZ (Zg r422)) fun r430 =>
 some (Zg r430)
 else none
 else Option.bind (ZaY (V.agg [(V.int .i64 (gi r418.1 0)), (V.int .i64 (gi r418.1 1)), (V.int .i64 (gi r418.1 2)), (V.inl Zb r418.2.1), (V.int .i64 (gi r418.1 4)), (V.int .i64 (gi r418.1 5)), (V.int .i64 (gi r418.1 6)), (V.int .i64 (gi r418.1 7)), (V.inl Zi r418.2.2.1), (V.inl Ze r418.2.2.2.1), (V.inl Ze r418.2.2.2.2.1), (V.inl Zk r418.2.2.2.2.2)])) fun r431 =>
 Option.bind (ZaZ (Zg r431)) fun r432 =>
 some (Zg r432)
def Zaj : Nat → List V → Int → Int → V → V → List V → List V → List V → List V → List V → Option (Nat × Int × Bool × V × V × List V × List V × List V × List V × List V)
 | 0, _, _, _, _, _, _, _, _, _, _ => none
 | k_ + 1, v71, v72, v73, b0, b1, r2, r3, r4, r5, r6 =>
 bif (decide (v73 < v72)) then
 bif (Zq v73 v71.length) then
 bif (decide ((IntKind.i64.wrap ((IntKind.i64.wrap ((gi b1 4) + 1)) + v73)) ≤ (gi b0 4))) then
 Option.bind (Zad (V.agg [(V.int .i64 (gi b0 0)), (V.int .i64 (gi b0 1)), (V.int .i64 (gi b0 2)), (V.inl Zb r2), (V.int .i64 (gi b0 4)), (V.int .i64 (gi b0 5)), (V.int .i64 (gi b0 6)), (V.int .i64 (gi b0 7)), (V.inl Zi r3), (V.inl Ze r4), (V.inl Ze r5)]) (IntKind.i64.wrap ((IntKind.i64.wrap ((gi b1 4) + 1)) + v73))) fun r440 =>
 bif (!(decide (r440 = (gi (rd v71 v73.toNat) 0)))) then
 some (0, (gi b0 4), false, (V.agg [(V.int .i64 (gi b0 0)), (V.int .i64 (gi b0 1)), (V.int .i64 (gi b0 2)), (V.sl 2 Zb 0 none), (V.int .i64 (gi b0 4)), (V.int .i64 (gi b0 5)), (V.int .i64 (gi b0 6)), (V.int .i64 (gi b0 7)), (V.sl 3 Zi 0 none), (V.sl 4 Ze 0 none), (V.sl 5 Ze 0 none), (V.sl 6 Zk 0 none)]), (Zj b1), r2, r3, r4, r5, r6)
 else Zaj k_ v71 v72 (IntKind.i64.wrap (v73 + 1)) (V.agg [(V.int .i64 (gi b0 0)), (V.int .i64 (gi b0 1)), (V.int .i64 (gi b0 2)), (V.sl 2 Zb 0 none), (V.int .i64 (gi b0 4)), (V.int .i64 (gi b0 5)), (V.int .i64 (gi b0 6)), (V.int .i64 (gi b0 7)), (V.sl 3 Zi 0 none), (V.sl 4 Ze 0 none), (V.sl 5 Ze 0 none), (V.sl 6 Zk 0 none)]) (Zj b1) r2 r3 r4 r5 r6
 else Zaj k_ v71 v72 (IntKind.i64.wrap (v73 + 1)) (V.agg [(V.int .i64 (gi b0 0)), (V.int .i64 (gi b0 1)), (V.int .i64 (gi b0 2)), (V.sl 2 Zb 0 none), (V.int .i64 (gi b0 4)), (V.int .i64 (gi b0 5)), (V.int .i64 (gi b0 6)), (V.int .i64 (gi b0 7)), (V.sl 3 Zi 0 none), (V.sl 4 Ze 0 none), (V.sl 5 Ze 0 none), (V.sl 6 Zk 0 none)]) (Zj b1) r2 r3 r4 r5 r6
 else none
 else some (1, 0, false, (V.agg [(V.int .i64 (gi b0 0)), (V.int .i64 (gi b0 1)), (V.int .i64 (gi b0 2)), (V.sl 2 Zb 0 none), (V.int .i64 (gi b0 4)), (V.int .i64 (gi b0 5)), (V.int .i64 (gi b0 6)), (V.int .i64 (gi b0 7)), (V.sl 3 Zi 0 none), (V.sl 4 Ze 0 none), (V.sl 5 Ze 0 none), (V.sl 6 Zk 0 none)]), (Zj b1), r2, r3, r4, r5, r6)
def ZJ : Nat → Int → List V → Int → Int → V → V → List V → List V → List V → List V → List V → Option (Int × V × V × List V × List V × List V × List V × List V)
 | 0, _, _, _, _, _, _, _, _, _, _, _ => none
 | k_ + 1, last9, v110, v111, v112, b0, b1, r2, r3, r4, r5, r6 =>
 bif (decide (v112 < v111)) then
 bif (Zq v112 v110.length) then
 bif (decide ((IntKind.i64.wrap (last9 + 1)) ≤ ((r2.length : Nat) : Int))) then
 Option.bind (Zad (V.agg [(V.int .i64 (gi b0 0)), (V.int .i64 (gi b0 1)), (V.int .i64 (gi b0 2)), (V.inl Zb r2), (V.int .i64 (gi b0 4)), (V.int .i64 (gi b0 5)), (V.int .i64 (gi b0 6)), (V.int .i64 (gi b0 7)), (V.inl Zi r3), (V.inl Ze r4), (V.inl Ze r5)]) (IntKind.i64.wrap (last9 + 1))) fun r442 =>
 bif (!(decide (r442 = (gi (rd v110 v112.toNat) 0)))) then
 bif ((decide ((0 : Int) ≤ (IntKind.i64.wrap ((IntKind.i64.wrap (last9 + 1)) - 1)))) && (decide ((IntKind.i64.wrap ((IntKind.i64.wrap (last9 + 1)) - 1)) ≤ ((r2.length : Nat) : Int)))) then
 bif (decide ((((IntKind.i64.wrap ((IntKind.i64.wrap (last9 + 1)) - 1)).toNat : Nat) : Int) < (IntKind.i64.wrap (last9 + 1)))) then
 Option.bind (Zbu (V.agg [(V.int .i64 (gi (rd v110 v112.toNat) 1)), (V.int .i64 (gi (rd v110 v112.toNat) 2)), (V.int .i64 (gi (rd v110 v112.toNat) 3)), (V.inl Zf (gl (rd v110 v112.toNat) 4)), (V.inl Zf (gl (rd v110 v112.toNat) 5)), (V.int .i64 (gi (rd v110 v112.toNat) 6))])) fun r443 =>
 bif ((Z1 (((r2.take ((IntKind.i64.wrap ((IntKind.i64.wrap (last9 + 1)) - 1)).toNat)).length) + 1) 88) && true) then
 ZJ k_ (IntKind.i64.wrap (last9 + 1)) v110 v111 (IntKind.i64.wrap (v112 + 1)) (V.agg [(V.int .i64 (gi b0 0)), (V.int .i64 (gi b0 1)), (V.int .i64 (gi b0 2)), (V.sl 2 Zb 0 none), (V.int .i64 (gi b0 4)), (V.int .i64 (gi b0 5)), (V.int .i64 (gi b0 6)), (V.int .i64 (gi b0 7)), (V.sl 3 Zi 0 none), (V.sl 4 Ze 0 none), (V.sl 5 Ze 0 none), (V.sl 6 Zk 0 none)]) (Zj b1) ((r2.take ((IntKind.i64.wrap ((IntKind.i64.wrap (last9 + 1)) - 1)).toNat)) ++ [(V.agg [(V.int .i64 (gi (rd v110 v112.toNat) 0)), (V.int .i64 (gi r443 0)), (V.int .i64 (gi r443 1)), (V.int .i64 (gi r443 2)), (V.inl Zf (gl r443 3)), (V.inl Zf (gl r443 4)), (V.int .i64 (gi r443 5))])]) r3 r4 r5 r6
 else none
 else ZJ k_ (IntKind.i64.wrap (last9 + 1)) v110 v111 (IntKind.i64.wrap (v112 + 1)) (V.agg [(V.int .i64 (gi b0 0)), (V.int .i64 (gi b0 1)), (V.int .i64 (gi b0 2)), (V.sl 2 Zb 0 none), (V.int .i64 (gi b0 4)), (V.int .i64 (gi b0 5)), (V.int .i64 (gi b0 6)), (V.int .i64 (gi b0 7)), (V.sl 3 Zi 0 none), (V.sl 4 Ze 0 none), (V.sl 5 Ze 0 none), (V.sl 6 Zk 0 none)]) (Zj b1) (r2.take ((IntKind.i64.wrap ((IntKind.i64.wrap (last9 + 1)) - 1)).toNat)) r3 r4 r5 r6
 else none
 else bif (decide (((r2.length : Nat) : Int) < (IntKind.i64.wrap (last9 + 1)))) then
 Option.bind (Zbu (V.agg [(V.int .i64 (gi (rd v110 v112.toNat) 1)), (V.int .i64 (gi (rd v110 v112.toNat) 2)), (V.int .i64 (gi (rd v110 v112.toNat) 3)), (V.inl Zf (gl (rd v110 v112.toNat) 4)), (V.inl Zf (gl (rd v110 v112.toNat) 5)), (V.int .i64 (gi (rd v110 v112.toNat) 6))])) fun r444 =>
 bif ((Z1 (r2.length + 1) 88) && true) then
 ZJ k_ (IntKind.i64.wrap (last9 + 1)) v110 v111 (IntKind.i64.wrap (v112 + 1)) (V.agg [(V.int .i64 (gi b0 0)), (V.int .i64 (gi b0 1)), (V.int .i64 (gi b0 2)), (V.sl 2 Zb 0 none), (V.int .i64 (gi b0 4)), (V.int .i64 (gi b0 5)), (V.int .i64 (gi b0 6)), (V.int .i64 (gi b0 7)), (V.sl 3 Zi 0 none), (V.sl 4 Ze 0 none), (V.sl 5 Ze 0 none), (V.sl 6 Zk 0 none)]) (Zj b1) (r2 ++ [(V.agg [(V.int .i64 (gi (rd v110 v112.toNat) 0)), (V.int .i64 (gi r444 0)), (V.int .i64 (gi r444 1)), (V.int .i64 (gi r444 2)), (V.inl Zf (gl r444 3)), (V.inl Zf (gl r444 4)), (V.int .i64 (gi r444 5))])]) r3 r4 r5 r6
 else none
 else ZJ k_ (IntKind.i64.wrap (last9 + 1)) v110 v111 (IntKind.i64.wrap (v112 + 1)) (V.agg [(V.int .i64 (gi b0 0)), (V.int .i64 (gi b0 1)), (V.int .i64 (gi b0 2)), (V.sl 2 Zb 0 none), (V.int .i64 (gi b0 4)), (V.int .i64 (gi b0 5)), (V.int .i64 (gi b0 6)), (V.int .i64 (gi b0 7)), (V.sl 3 Zi 0 none), (V.sl 4 Ze 0 none), (V.sl 5 Ze 0 none), (V.sl 6 Zk 0 none)]) (Zj b1) r2 r3 r4 r5 r6
 else bif (decide (((r2.length : Nat) : Int) < (IntKind.i64.wrap (last9 + 1)))) then
 Option.bind (Zbu (V.agg [(V.int .i64 (gi (rd v110 v112.toNat) 1)), (V.int .i64 (gi (rd v110 v112.toNat) 2)), (V.int .i64 (gi (rd v110 v112.toNat) 3)), (V.inl Zf (gl (rd v110 v112.toNat) 4)), (V.inl Zf (gl (rd v110 v112.toNat) 5)), (V.int .i64 (gi (rd v110 v112.toNat) 6))])) fun r445 =>
 bif ((Z1 (r2.length + 1) 88) && true) then
 ZJ k_ (IntKind.i64.wrap (last9 + 1)) v110 v111 (IntKind.i64.wrap (v112 + 1)) (V.agg [(V.int .i64 (gi b0 0)), (V.int .i64 (gi b0 1)), (V.int .i64 (gi b0 2)), (V.sl 2 Zb 0 none), (V.int .i64 (gi b0 4)), (V.int .i64 (gi b0 5)), (V.int .i64 (gi b0 6)), (V.int .i64 (gi b0 7)), (V.sl 3 Zi 0 none), (V.sl 4 Ze 0 none), (V.sl 5 Ze 0 none), (V.sl 6 Zk 0 none)]) (Zj b1) (r2 ++ [(V.agg [(V.int .i64 (gi (rd v110 v112.toNat) 0)), (V.int .i64 (gi r445 0)), (V.int .i64 (gi r445 1)), (V.int .i64 (gi r445 2)), (V.inl Zf (gl r445 3)), (V.inl Zf (gl r445 4)), (V.int .i64 (gi r445 5))])]) r3 r4 r5 r6
 else none
 else ZJ k_ (IntKind.i64.wrap (last9 + 1)) v110 v111 (IntKind.i64.wrap (v112 + 1)) (V.agg [(V.int .i64 (gi b0 0)), (V.int .i64 (gi b0 1)), (V.int .i64 (gi b0 2)), (V.sl 2 Zb 0 none), (V.int .i64 (gi b0 4)), (V.int .i64 (gi b0 5)), (V.int .i64 (gi b0 6)), (V.int .i64 (gi b0 7)), (V.sl 3 Zi 0 none), (V.sl 4 Ze 0 none), (V.sl 5 Ze 0 none), (V.sl 6 Zk 0 none)]) (Zj b1) r2 r3 r4 r5 r6
 else none
 else some (last9, (V.agg [(V.int .i64 (gi b0 0)), (V.int .i64 (gi b0 1)), (V.int .i64 (gi b0 2)), (V.sl 2 Zb 0 none), (V.int .i64 (gi b0 4)), (V.int .i64 (gi b0 5)), (V.int .i64 (gi b0 6)), (V.int .i64 (gi b0 7)), (V.sl 3 Zi 0 none), (V.sl 4 Ze 0 none), (V.sl 5 Ze 0 none), (V.sl 6 Zk 0 none)]), (Zj b1), r2, r3, r4, r5, r6)
def ZcD (s : V) (m : V) : Option (Int × Bool × V) :=
 bif (decide ((gi m 3) < (gi s 1))) then
 some (0, false, (Zg s))
 else bif (decide ((gi s 5) = 2)) then
 some (0, false, (Zg s))
 else bif (decide ((((gl (Zd (Zg s) (gi m 3)) 3).length : Nat) : Int) < (gi m 4))) then
 some ((((gl (Zd (Zg s) (gi m 3)) 3).length : Nat) : Int), false, (V.agg [(V.int .i64 (gi (Zd (Zg s) (gi m 3)) 0)), (V.int .i64 (gi (Zd (Zg s) (gi m 3)) 1)), (V.int .i64 (gi (Zd (Zg s) (gi m 3)) 2)), (V.inl Zb (gl (Zd (Zg s) (gi m 3)) 3)), (V.int .i64 (gi (Zd (Zg s) (gi m 3)) 4)), (V.int .i64 (gi (Zd (Zg s) (gi m 3)) 5)), (V.int .i64 (gi m 1)), (V.int .i64 0), (V.inl Zi (gl (Zd (Zg s) (gi m 3)) 8)), (V.inl Ze (gl (Zd (Zg s) (gi m 3)) 9)), (V.inl Ze (gl (Zd (Zg s) (gi m 3)) 10)), (V.inl Zk (gl (Zd (Zg s) (gi m 3)) 11))]))
 else Option.bind (Zad (V.agg [(V.int .i64 (gi (Zd (Zg s) (gi m 3)) 0)), (V.int .i64 (gi (Zd (Zg s) (gi m 3)) 1)), (V.int .i64 (gi (Zd (Zg s) (gi m 3)) 2)), (V.inl Zb (gl (Zd (Zg s) (gi m 3)) 3)), (V.int .i64 (gi (Zd (Zg s) (gi m 3)) 4)), (V.int .i64 (gi (Zd (Zg s) (gi m 3)) 5)), (V.int .i64 (gi m 1)), (V.int .i64 0), (V.inl Zi (gl (Zd (Zg s) (gi m 3)) 8)), (V.inl Ze (gl (Zd (Zg s) (gi m 3)) 9)), (V.inl Ze (gl (Zd (Zg s) (gi m 3)) 10))]) (gi m 4)) fun r439 =>
 bif (!(decide (r439 = (gi m 5)))) then
 some ((IntKind.i64.wrap ((gi m 4) - 1)), false, (V.agg [(V.int .i64 (gi (Zd (Zg s) (gi m 3)) 0)), (V.int .i64 (gi (Zd (Zg s) (gi m 3)) 1)), (V.int .i64 (gi (Zd (Zg s) (gi m 3)) 2)), (V.inl Zb (gl (Zd (Zg s) (gi m 3)) 3)), (V.int .i64 (gi (Zd (Zg s) (gi m 3)) 4)), (V.int .i64 (gi (Zd (Zg s) (gi m 3)) 5)), (V.int .i64 (gi m 1)), (V.int .i64 0), (V.inl Zi (gl (Zd (Zg s) (gi m 3)) 8)), (V.inl Ze (gl (Zd (Zg s) (gi m 3)) 9)), (V.inl Ze (gl (Zd (Zg s) (gi m 3)) 10)), (V.inl Zk (gl (Zd (Zg s) (gi m 3)) 11))]))
 else Option.bind (Zaj (((((gl m 6).length : Nat) : Int) - 0).toNat + 1) (gl m 6) (((gl m 6).length : Nat) : Int) 0 (V.agg [(V.int .i64 (gi (Zd (Zg s) (gi m 3)) 0)), (V.int .i64 (gi (Zd (Zg s) (gi m 3)) 1)), (V.int .i64 (gi (Zd (Zg s) (gi m 3)) 2)), (V.sl 2 Zb 0 none), (V.int .i64 (gi (Zd (Zg s) (gi m 3)) 4)), (V.int .i64 (gi (Zd (Zg s) (gi m 3)) 5)), (V.int .i64 (gi m 1)), (V.int .i64 0), (V.sl 3 Zi 0 none), (V.sl 4 Ze 0 none), (V.sl 5 Ze 0 none), (V.sl 6 Zk 0 none)]) (Zj m) (gl (Zd (Zg s) (gi m 3)) 3) (gl (Zd (Zg s) (gi m 3)) 8) (gl (Zd (Zg s) (gi m 3)) 9) (gl (Zd (Zg s) (gi m 3)) 10) (gl (Zd (Zg s) (gi m 3)) 11)) fun r441 =>
 bif (Nat.beq r441.1 0) then
 some (r441.2.1, r441.2.2.1, (V.agg [(V.int .i64 (gi r441.2.2.2.1 0)), (V.int .i64 (gi r441.2.2.2.1 1)), (V.int .i64 (gi r441.2.2.2.1 2)), (V.inl Zb r441.2.2.2.2.2.1), (V.int .i64 (gi r441.2.2.2.1 4)), (V.int .i64 (gi r441.2.2.2.1 5)), (V.int .i64 (gi r441.2.2.2.1 6)), (V.int .i64 (gi r441.2.2.2.1 7)), (V.inl Zi r441.2.2.2.2.2.2.1), (V.inl Ze r441.2.2.2.2.2.2.2.1), (V.inl Ze r441.2.2.2.2.2.2.2.2.1), (V.inl Zk r441.2.2.2.2.2.2.2.2.2)]))
 else Option.bind (ZJ (((((gl r441.2.2.2.2.1 6).length : Nat) : Int) - 0).toNat + 1) (gi r441.2.2.2.2.1 4) (gl r441.2.2.2.2.1 6) (((gl r441.2.2.2.2.1 6).length : Nat) : Int) 0 (V.agg [(V.int .i64 (gi r441.2.2.2.1 0)), (V.int .i64 (gi r441.2.2.2.1 1)), (V.int .i64 (gi r441.2.2.2.1 2)), (V.sl 2 Zb 0 none), (V.int .i64 (gi r441.2.2.2.1 4)), (V.int .i64 (gi r441.2.2.2.1 5)), (V.int .i64 (gi r441.2.2.2.1 6)), (V.int .i64 (gi r441.2.2.2.1 7)), (V.sl 3 Zi 0 none), (V.sl 4 Ze 0 none), (V.sl 5 Ze 0 none), (V.sl 6 Zk 0 none)]) (Zj r441.2.2.2.2.1) r441.2.2.2.2.2.1 r441.2.2.2.2.2.2.1 r441.2.2.2.2.2.2.2.1 r441.2.2.2.2.2.2.2.2.1 r441.2.2.2.2.2.2.2.2.2) fun r446 =>
 some (r446.1, true, (V.agg [(V.int .i64 (gi r446.2.1 0)), (V.int .i64 (gi r446.2.1 1)), (V.int .i64 (gi r446.2.1 2)), (V.inl Zb r446.2.2.2.1), (V.int .i64 (mxI (gi r446.2.1 4) (mnI (gi r446.2.2.1 7) r446.1))), (V.int .i64 (gi r446.2.1 5)), (V.int .i64 (gi r446.2.1 6)), (V.int .i64 (gi r446.2.1 7)), (V.inl Zi r446.2.2.2.2.1), (V.inl Ze r446.2.2.2.2.2.1), (V.inl Ze r446.2.2.2.2.2.2.1), (V.inl Zk r446.2.2.2.2.2.2.2)]))
def ZcE (s : V) (m : V) : Option (V) :=
 bif (!(decide ((gi s 5) = 2))) then
 some (Zg s)
 else bif (!(decide ((gi m 3) = (gi s 1)))) then
 some (Zg s)
 else bif (!(gb m 8)) then
 bif (Zq (gi m 1) ((gl s 9).length)) then
 bif (Zq (gi m 1) ((gl s 10).length)) then
 bif (decide ((gi (rd (gl s 10) (0 + ((gi m 1).toNat))) 0) < (mxI 1 (mnI (IntKind.i64.wrap ((gi (rd (gl s 9) (0 + ((gi m 1).toNat))) 0) - 1)) (IntKind.i64.wrap ((gi m 4) + 1)))))) then
 bif (Zq (gi m 1) ((gl s 9).length)) then
 Option.bind (Zbm (V.agg [(V.int .i64 (gi s 0)), (V.int .i64 (gi s 1)), (V.int .i64 (gi s 2)), (V.inl Zb (gl s 3)), (V.int .i64 (gi s 4)), (V.int .i64 (gi s 5)), (V.int .i64 (gi s 6)), (V.int .i64 (gi s 7)), (V.inl Zi (gl s 8)), (V.inl Ze ((gl s 9).set (0 + ((gi m 1).toNat)) (V.int .i64 (mxI 1 (mnI (IntKind.i64.wrap ((gi (rd (gl s 9) (0 + ((gi m 1).toNat))) 0) - 1)) (IntKind.i64.wrap ((gi m 4) + 1))))))), (V.inl Ze (gl s 10)), (V.inl Zk (gl s 11))]) (gi m 1)) fun r448 =>
 some (Zg r448)
 else none
 else some (Zg s)
 else none
 else none
 else bif (decide ((((gl s 3).length : Nat) : Int) < (gi m 4))) then
 some (Zg s)
 else bif (Zq (gi m 1) ((gl s 10).length)) then
 bif (decide ((gi m 4) ≤ (gi (rd (gl s 10) (0 + ((gi m 1).toNat))) 0))) then
 some (Zg s)
 else bif (Zq (gi m 1) ((gl s 10).length)) then
 bif (Zq (gi m 1) ((gl s 9).length)) then
 Option.bind (ZaY (V.agg [(V.int .i64 (gi s 0)), (V.int .i64 (gi s 1)), (V.int .i64 (gi s 2)), (V.inl Zb (gl s 3)), (V.int .i64 (gi s 4)), (V.int .i64 (gi s 5)), (V.int .i64 (gi s 6)), (V.int .i64 (gi s 7)), (V.inl Zi (gl s 8)), (V.inl Ze ((gl s 9).set (0 + ((gi m 1).toNat)) (V.int .i64 (IntKind.i64.wrap ((gi m 4) + 1))))), (V.inl Ze ((gl s 10).set (0 + ((gi m 1).toNat)) (V.int .i64 (gi m 4)))), (V.inl Zk (gl s 11))])) fun r449 =>
 bif (!(decide ((gi r449 4) = (gi s 4)))) then
 Option.bind (ZaZ (Zg r449)) fun r450 =>
 some (Zg r450)
 else bif (Zq (gi m 1) ((gl r449 9).length)) then
 bif (decide ((gi (rd (gl r449 9) (0 + ((gi m 1).toNat))) 0) ≤ (((gl r449 3).length : Nat) : Int))) then
 Option.bind (Zbm (Zg r449) (gi m 1)) fun r451 =>
 some (Zg r451)
 else some (Zg r449)
 else none
 else none
 else none
 else none
def Zae (s : V) (m : V) : Option (V) :=
 bif (decide ((gi s 1) < (gi m 3))) then
 bif (decide ((gi m 0) = 0)) then
 bif (decide ((gi m 3) = (gi (Zd (Zg s) (gi m 3)) 1))) then
 bif (decide ((gi (Zd (Zg s) (gi m 3)) 5) = 0)) then
 bif (decide ((gi (Zd (Zg s) (gi m 3)) 2) = (-1))) then
 Option.bind (Zbv (Zc (Zd (Zg s) (gi m 3))) (gi m 4) (gi m 5)) fun r415 =>
 bif r415 then
 bif ((Z1 (((gl (Zd (Zg s) (gi m 3)) 11).length) + 1) 88) && true) then
 some (V.agg [(V.int .i64 (gi (Zd (Zg s) (gi m 3)) 0)), (V.int .i64 (gi (Zd (Zg s) (gi m 3)) 1)), (V.int .i64 (gi m 1)), (V.inl Zb (gl (Zd (Zg s) (gi m 3)) 3)), (V.int .i64 (gi (Zd (Zg s) (gi m 3)) 4)), (V.int .i64 (gi (Zd (Zg s) (gi m 3)) 5)), (V.int .i64 (gi (Zd (Zg s) (gi m 3)) 6)), (V.int .i64 0), (V.inl Zi (gl (Zd (Zg s) (gi m 3)) 8)), (V.inl Ze (gl (Zd (Zg s) (gi m 3)) 9)), (V.inl Ze (gl (Zd (Zg s) (gi m 3)) 10)), (V.inl Zk ((gl (Zd (Zg s) (gi m 3)) 11) ++ [(V.agg [(V.int .i64 1), (V.int .i64 (gi (Zd (Zg s) (gi m 3)) 0)), (V.int .i64 (gi m 1)), (V.int .i64 (gi (Zd (Zg s) (gi m 3)) 1)), (V.int .i64 0), (V.int .i64 0), (V.inl Zb []), (V.int .i64 0), (V.bool r415)])]))])
 else none
 else bif ((Z1 (((gl (Zd (Zg s) (gi m 3)) 11).length) + 1) 88) && true) then
 some (V.agg [(V.int .i64 (gi (Zd (Zg s) (gi m 3)) 0)), (V.int .i64 (gi (Zd (Zg s) (gi m 3)) 1)), (V.int .i64 (gi (Zd (Zg s) (gi m 3)) 2)), (V.inl Zb (gl (Zd (Zg s) (gi m 3)) 3)), (V.int .i64 (gi (Zd (Zg s) (gi m 3)) 4)), (V.int .i64 (gi (Zd (Zg s) (gi m 3)) 5)), (V.int .i64 (gi (Zd (Zg s) (gi m 3)) 6)), (V.int .i64 (gi (Zd (Zg s) (gi m 3)) 7)), (V.inl Zi (gl (Zd (Zg s) (gi m 3)) 8)), (V.inl Ze (gl (Zd (Zg s) (gi m 3)) 9)), (V.inl Ze (gl (Zd (Zg s) (gi m 3)) 10)), (V.inl Zk ((gl (Zd (Zg s) (gi m 3)) 11) ++ [(V.agg [(V.int .i64 1), (V.int .i64 (gi (Zd (Zg s) (gi m 3)) 0)), (V.int .i64 (gi m 1)), (V.int .i64 (gi (Zd (Zg s) (gi m 3)) 1)), (V.int .i64 0), (V.int .i64 0), (V.inl Zb []), (V.int .i64 0), (V.bool r415)])]))])
 else none
 else bif (decide ((gi (Zd (Zg s) (gi m 3)) 2) = (gi m 1))) then
 Option.bind (Zbv (Zc (Zd (Zg s) (gi m 3))) (gi m 4) (gi m 5)) fun r416 =>
 bif r416 then
 bif ((Z1 (((gl (Zd (Zg s) (gi m 3)) 11).length) + 1) 88) && true) then
 some (V.agg [(V.int .i64 (gi (Zd (Zg s) (gi m 3)) 0)), (V.int .i64 (gi (Zd (Zg s) (gi m 3)) 1)), (V.int .i64 (gi m 1)), (V.inl Zb (gl (Zd (Zg s) (gi m 3)) 3)), (V.int .i64 (gi (Zd (Zg s) (gi m 3)) 4)), (V.int .i64 (gi (Zd (Zg s) (gi m 3)) 5)), (V.int .i64 (gi (Zd (Zg s) (gi m 3)) 6)), (V.int .i64 0), (V.inl Zi (gl (Zd (Zg s) (gi m 3)) 8)), (V.inl Ze (gl (Zd (Zg s) (gi m 3)) 9)), (V.inl Ze (gl (Zd (Zg s) (gi m 3)) 10)), (V.inl Zk ((gl (Zd (Zg s) (gi m 3)) 11) ++ [(V.agg [(V.int .i64 1), (V.int .i64 (gi (Zd (Zg s) (gi m 3)) 0)), (V.int .i64 (gi m 1)), (V.int .i64 (gi (Zd (Zg s) (gi m 3)) 1)), (V.int .i64 0), (V.int .i64 0), (V.inl Zb []), (V.int .i64 0), (V.bool r416)])]))])
 else none
 else bif ((Z1 (((gl (Zd (Zg s) (gi m 3)) 11).length) + 1) 88) && true) then
 some (V.agg [(V.int .i64 (gi (Zd (Zg s) (gi m 3)) 0)), (V.int .i64 (gi (Zd (Zg s) (gi m 3)) 1)), (V.int .i64 (gi (Zd (Zg s) (gi m 3)) 2)), (V.inl Zb (gl (Zd (Zg s) (gi m 3)) 3)), (V.int .i64 (gi (Zd (Zg s) (gi m 3)) 4)), (V.int .i64 (gi (Zd (Zg s) (gi m 3)) 5)), (V.int .i64 (gi (Zd (Zg s) (gi m 3)) 6)), (V.int .i64 (gi (Zd (Zg s) (gi m 3)) 7)), (V.inl Zi (gl (Zd (Zg s) (gi m 3)) 8)), (V.inl Ze (gl (Zd (Zg s) (gi m 3)) 9)), (V.inl Ze (gl (Zd (Zg s) (gi m 3)) 10)), (V.inl Zk ((gl (Zd (Zg s) (gi m 3)) 11) ++ [(V.agg [(V.int .i64 1), (V.int .i64 (gi (Zd (Zg s) (gi m 3)) 0)), (V.int .i64 (gi m 1)), (V.int .i64 (gi (Zd (Zg s) (gi m 3)) 1)), (V.int .i64 0), (V.int .i64 0), (V.inl Zb []), (V.int .i64 0), (V.bool r416)])]))])
 else none
 else bif ((Z1 (((gl (Zd (Zg s) (gi m 3)) 11).length) + 1) 88) && true) then
 some (V.agg [(V.int .i64 (gi (Zd (Zg s) (gi m 3)) 0)), (V.int .i64 (gi (Zd (Zg s) (gi m 3)) 1)), (V.int .i64 (gi (Zd (Zg s) (gi m 3)) 2)), (V.inl Zb (gl (Zd (Zg s) (gi m 3)) 3)), (V.int .i64 (gi (Zd (Zg s) (gi m 3)) 4)), (V.int .i64 (gi (Zd (Zg s) (gi m 3)) 5)), (V.int .i64 (gi (Zd (Zg s) (gi m 3)) 6)), (V.int .i64 (gi (Zd (Zg s) (gi m 3)) 7)), (V.inl Zi (gl (Zd (Zg s) (gi m 3)) 8)), (V.inl Ze (gl (Zd (Zg s) (gi m 3)) 9)), (V.inl Ze (gl (Zd (Zg s) (gi m 3)) 10)), (V.inl Zk ((gl (Zd (Zg s) (gi m 3)) 11) ++ [(V.agg [(V.int .i64 1), (V.int .i64 (gi (Zd (Zg s) (gi m 3)) 0)), (V.int .i64 (gi m 1)), (V.int .i64 (gi (Zd (Zg s) (gi m 3)) 1)), (V.int .i64 0), (V.int .i64 0), (V.inl Zb []), (V.int .i64 0), (V.bool false)])]))])
 else none
 else bif ((Z1 (((gl (Zd (Zg s) (gi m 3)) 11).length) + 1) 88) && true) then
 some (V.agg [(V.int .i64 (gi (Zd (Zg s) (gi m 3)) 0)), (V.int .i64 (gi (Zd (Zg s) (gi m 3)) 1)), (V.int .i64 (gi (Zd (Zg s) (gi m 3)) 2)), (V.inl Zb (gl (Zd (Zg s) (gi m 3)) 3)), (V.int .i64 (gi (Zd (Zg s) (gi m 3)) 4)), (V.int .i64 (gi (Zd (Zg s) (gi m 3)) 5)), (V.int .i64 (gi (Zd (Zg s) (gi m 3)) 6)), (V.int .i64 (gi (Zd (Zg s) (gi m 3)) 7)), (V.inl Zi (gl (Zd (Zg s) (gi m 3)) 8)), (V.inl Ze (gl (Zd (Zg s) (gi m 3)) 9)), (V.inl Ze (gl (Zd (Zg s) (gi m 3)) 10)), (V.inl Zk ((gl (Zd (Zg s) (gi m 3)) 11) ++ [(V.agg [(V.int .i64 1), (V.int .i64 (gi (Zd (Zg s) (gi m 3)) 0)), (V.int .i64 (gi m 1)), (V.int .i64 (gi (Zd (Zg s) (gi m 3)) 1)), (V.int .i64 0), (V.int .i64 0), (V.inl Zb []), (V.int .i64 0), (V.bool false)])]))])
 else none
 else bif ((Z1 (((gl (Zd (Zg s) (gi m 3)) 11).length) + 1) 88) && true) then
 some (V.agg [(V.int .i64 (gi (Zd (Zg s) (gi m 3)) 0)), (V.int .i64 (gi (Zd (Zg s) (gi m 3)) 1)), (V.int .i64 (gi (Zd (Zg s) (gi m 3)) 2)), (V.inl Zb (gl (Zd (Zg s) (gi m 3)) 3)), (V.int .i64 (gi (Zd (Zg s) (gi m 3)) 4)), (V.int .i64 (gi (Zd (Zg s) (gi m 3)) 5)), (V.int .i64 (gi (Zd (Zg s) (gi m 3)) 6)), (V.int .i64 (gi (Zd (Zg s) (gi m 3)) 7)), (V.inl Zi (gl (Zd (Zg s) (gi m 3)) 8)), (V.inl Ze (gl (Zd (Zg s) (gi m 3)) 9)), (V.inl Ze (gl (Zd (Zg s) (gi m 3)) 10)), (V.inl Zk ((gl (Zd (Zg s) (gi m 3)) 11) ++ [(V.agg [(V.int .i64 1), (V.int .i64 (gi (Zd (Zg s) (gi m 3)) 0)), (V.int .i64 (gi m 1)), (V.int .i64 (gi (Zd (Zg s) (gi m 3)) 1)), (V.int .i64 0), (V.int .i64 0), (V.inl Zb []), (V.int .i64 0), (V.bool false)])]))])
 else none
 else bif (decide ((gi m 0) = 1)) then
 bif (decide ((gi (Zd (Zg s) (gi m 3)) 5) = 1)) then
 bif (decide ((gi m 3) = (gi (Zd (Zg s) (gi m 3)) 1))) then
 bif (gb m 8) then
 bif (Zq (gi m 1) ((gl (Zd (Zg s) (gi m 3)) 8).length)) then
 Option.bind (Zcl (V.agg [(V.int .i64 (gi (Zd (Zg s) (gi m 3)) 0)), (V.int .i64 (gi (Zd (Zg s) (gi m 3)) 1)), (V.int .i64 (gi (Zd (Zg s) (gi m 3)) 2)), (V.inl Zb (gl (Zd (Zg s) (gi m 3)) 3)), (V.int .i64 (gi (Zd (Zg s) (gi m 3)) 4)), (V.int .i64 (gi (Zd (Zg s) (gi m 3)) 5)), (V.int .i64 (gi (Zd (Zg s) (gi m 3)) 6)), (V.int .i64 (gi (Zd (Zg s) (gi m 3)) 7)), (V.inl Zi ((gl (Zd (Zg s) (gi m 3)) 8).set (0 + ((gi m 1).toNat)) (V.bool true))), (V.inl Ze (gl (Zd (Zg s) (gi m 3)) 9)), (V.inl Ze (gl (Zd (Zg s) (gi m 3)) 10)), (V.inl Zk (gl (Zd (Zg s) (gi m 3)) 11))])) fun r433 =>
 some (Zg r433)
 else none
 else some (Zg (Zd (Zg s) (gi m 3)))
 else some (Zg (Zd (Zg s) (gi m 3)))
 else some (Zg (Zd (Zg s) (gi m 3)))
 else bif (decide ((gi m 0) = 2)) then
 Option.bind (ZcD (Zg (Zd (Zg s) (gi m 3))) (Zj m)) fun r447 =>
 bif ((Z1 (((gl r447.2.2 11).length) + 1) 88) && true) then
 some (V.agg [(V.int .i64 (gi r447.2.2 0)), (V.int .i64 (gi r447.2.2 1)), (V.int .i64 (gi r447.2.2 2)), (V.inl Zb (gl r447.2.2 3)), (V.int .i64 (gi r447.2.2 4)), (V.int .i64 (gi r447.2.2 5)), (V.int .i64 (gi r447.2.2 6)), (V.int .i64 (gi r447.2.2 7)), (V.inl Zi (gl r447.2.2 8)), (V.inl Ze (gl r447.2.2 9)), (V.inl Ze (gl r447.2.2 10)), (V.inl Zk ((gl r447.2.2 11) ++ [(V.agg [(V.int .i64 3), (V.int .i64 (gi (Zd (Zg s) (gi m 3)) 0)), (V.int .i64 (gi m 1)), (V.int .i64 (gi r447.2.2 1)), (V.int .i64 r447.1), (V.int .i64 0), (V.inl Zb []), (V.int .i64 0), (V.bool r447.2.1)])]))])
 else none
 else Option.bind (ZcE (Zg (Zd (Zg s) (gi m 3))) (Zj m)) fun r452 =>
 some (Zg r452)
 else bif (decide ((gi m 0) = 0)) then
 bif (decide ((gi m 3) = (gi s 1))) then
 bif (decide ((gi s 5) = 0)) then
 bif (decide ((gi s 2) = (-1))) then
 Option.bind (Zbv (Zc s) (gi m 4) (gi m 5)) fun r453 =>
 bif r453 then
 bif ((Z1 (((gl s 11).length) + 1) 88) && true) then
 some (V.agg [(V.int .i64 (gi s 0)), (V.int .i64 (gi s 1)), (V.int .i64 (gi m 1)), (V.inl Zb (gl s 3)), (V.int .i64 (gi s 4)), (V.int .i64 (gi s 5)), (V.int .i64 (gi s 6)), (V.int .i64 0), (V.inl Zi (gl s 8)), (V.inl Ze (gl s 9)), (V.inl Ze (gl s 10)), (V.inl Zk ((gl s 11) ++ [(V.agg [(V.int .i64 1), (V.int .i64 (gi s 0)), (V.int .i64 (gi m 1)), (V.int .i64 (gi s 1)), (V.int .i64 0), (V.int .i64 0), (V.inl Zb []), (V.int .i64 0), (V.bool r453)])]))])
 else none
 else bif ((Z1 (((gl s 11).length) + 1) 88) && true) then
 some (V.agg [(V.int .i64 (gi s 0)), (V.int .i64 (gi s 1)), (V.int .i64 (gi s 2)), (V.inl Zb (gl s 3)), (V.int .i64 (gi s 4)), (V.int .i64 (gi s 5)), (V.int .i64 (gi s 6)), (V.int .i64 (gi s 7)), (V.inl Zi (gl s 8)), (V.inl Ze (gl s 9)), (V.inl Ze (gl s 10)), (V.inl Zk ((gl s 11) ++ [(V.agg [(V.int .i64 1), (V.int .i64 (gi s 0)), (V.int .i64 (gi m 1)), (V.int .i64 (gi s 1)), (V.int .i64 0), (V.int .i64 0), (V.inl Zb []), (V.int .i64 0), (V.bool r453)])]))])
 else none
 else bif (decide ((gi s 2) = (gi m 1))) then
 Option.bind (Zbv (Zc s) (gi m 4) (gi m 5)) fun r454 =>
 bif r454 then
 bif ((Z1 (((gl s 11).length) + 1) 88) && true) then
 some (V.agg [(V.int .i64 (gi s 0)), (V.int .i64 (gi s 1)), (V.int .i64 (gi m 1)), (V.inl Zb (gl s 3)), (V.int .i64 (gi s 4)), (V.int .i64 (gi s 5)), (V.int .i64 (gi s 6)), (V.int .i64 0), (V.inl Zi (gl s 8)), (V.inl Ze (gl s 9)), (V.inl Ze (gl s 10)), (V.inl Zk ((gl s 11) ++ [(V.agg [(V.int .i64 1), (V.int .i64 (gi s 0)), (V.int .i64 (gi m 1)), (V.int .i64 (gi s 1)), (V.int .i64 0), (V.int .i64 0), (V.inl Zb []), (V.int .i64 0), (V.bool r454)])]))])
 else none
 else bif ((Z1 (((gl s 11).length) + 1) 88) && true) then
 some (V.agg [(V.int .i64 (gi s 0)), (V.int .i64 (gi s 1)), (V.int .i64 (gi s 2)), (V.inl Zb (gl s 3)), (V.int .i64 (gi s 4)), (V.int .i64 (gi s 5)), (V.int .i64 (gi s 6)), (V.int .i64 (gi s 7)), (V.inl Zi (gl s 8)), (V.inl Ze (gl s 9)), (V.inl Ze (gl s 10)), (V.inl Zk ((gl s 11) ++ [(V.agg [(V.int .i64 1), (V.int .i64 (gi s 0)), (V.int .i64 (gi m 1)), (V.int .i64 (gi s 1)), (V.int .i64 0), (V.int .i64 0), (V.inl Zb []), (V.int .i64 0), (V.bool r454)])]))])
 else none
 else bif ((Z1 (((gl s 11).length) + 1) 88) && true) then
 some (V.agg [(V.int .i64 (gi s 0)), (V.int .i64 (gi s 1)), (V.int .i64 (gi s 2)), (V.inl Zb (gl s 3)), (V.int .i64 (gi s 4)), (V.int .i64 (gi s 5)), (V.int .i64 (gi s 6)), (V.int .i64 (gi s 7)), (V.inl Zi (gl s 8)), (V.inl Ze (gl s 9)), (V.inl Ze (gl s 10)), (V.inl Zk ((gl s 11) ++ [(V.agg [(V.int .i64 1), (V.int .i64 (gi s 0)), (V.int .i64 (gi m 1)), (V.int .i64 (gi s 1)), (V.int .i64 0), (V.int .i64 0), (V.inl Zb []), (V.int .i64 0), (V.bool false)])]))])
 else none
 else bif ((Z1 (((gl s 11).length) + 1) 88) && true) then
 some (V.agg [(V.int .i64 (gi s 0)), (V.int .i64 (gi s 1)), (V.int .i64 (gi s 2)), (V.inl Zb (gl s 3)), (V.int .i64 (gi s 4)), (V.int .i64 (gi s 5)), (V.int .i64 (gi s 6)), (V.int .i64 (gi s 7)), (V.inl Zi (gl s 8)), (V.inl Ze (gl s 9)), (V.inl Ze (gl s 10)), (V.inl Zk ((gl s 11) ++ [(V.agg [(V.int .i64 1), (V.int .i64 (gi s 0)), (V.int .i64 (gi m 1)), (V.int .i64 (gi s 1)), (V.int .i64 0), (V.int .i64 0), (V.inl Zb []), (V.int .i64 0), (V.bool false)])]))])
 else none
 else bif ((Z1 (((gl s 11).length) + 1) 88) && true) then
 some (V.agg [(V.int .i64 (gi s 0)), (V.int .i64 (gi s 1)), (V.int .i64 (gi s 2)), (V.inl Zb (gl s 3)), (V.int .i64 (gi s 4)), (V.int .i64 (gi s 5)), (V.int .i64 (gi s 6)), (V.int .i64 (gi s 7)), (V.inl Zi (gl s 8)), (V.inl Ze (gl s 9)), (V.inl Ze (gl s 10)), (V.inl Zk ((gl s 11) ++ [(V.agg [(V.int .i64 1), (V.int .i64 (gi s 0)), (V.int .i64 (gi m 1)), (V.int .i64 (gi s 1)), (V.int .i64 0), (V.int .i64 0), (V.inl Zb []), (V.int .i64 0), (V.bool false)])]))])
 else none
 else bif (decide ((gi m 0) = 1)) then
 bif (decide ((gi s 5) = 1)) then
 bif (decide ((gi m 3) = (gi s 1))) then
 bif (gb m 8) then
 bif (Zq (gi m 1) ((gl s 8).length)) then
 Option.bind (Zcl (V.agg [(V.int .i64 (gi s 0)), (V.int .i64 (gi s 1)), (V.int .i64 (gi s 2)), (V.inl Zb (gl s 3)), (V.int .i64 (gi s 4)), (V.int .i64 (gi s 5)), (V.int .i64 (gi s 6)), (V.int .i64 (gi s 7)), (V.inl Zi ((gl s 8).set (0 + ((gi m 1).toNat)) (V.bool true))), (V.inl Ze (gl s 9)), (V.inl Ze (gl s 10)), (V.inl Zk (gl s 11))])) fun r455 =>
 some (Zg r455)
 else none
 else some (Zg s)
 else some (Zg s)
 else some (Zg s)
 else bif (decide ((gi m 0) = 2)) then
 Option.bind (ZcD (Zg s) (Zj m)) fun r456 =>
 bif ((Z1 (((gl r456.2.2 11).length) + 1) 88) && true) then
 some (V.agg [(V.int .i64 (gi r456.2.2 0)), (V.int .i64 (gi r456.2.2 1)), (V.int .i64 (gi r456.2.2 2)), (V.inl Zb (gl r456.2.2 3)), (V.int .i64 (gi r456.2.2 4)), (V.int .i64 (gi r456.2.2 5)), (V.int .i64 (gi r456.2.2 6)), (V.int .i64 (gi r456.2.2 7)), (V.inl Zi (gl r456.2.2 8)), (V.inl Ze (gl r456.2.2 9)), (V.inl Ze (gl r456.2.2 10)), (V.inl Zk ((gl r456.2.2 11) ++ [(V.agg [(V.int .i64 3), (V.int .i64 (gi s 0)), (V.int .i64 (gi m 1)), (V.int .i64 (gi r456.2.2 1)), (V.int .i64 r456.1), (V.int .i64 0), (V.inl Zb []), (V.int .i64 0), (V.bool r456.2.1)])]))])
 else none
 else Option.bind (ZcE (Zg s) (Zj m)) fun r457 =>
 some (Zg r457)
def ZdM (n : V) (servers : Int) (m : V) : Option (V × List V) :=
 Option.bind (Zc8 (Zc n) servers) fun r383 =>
 bif (!r383) then
 some ((V.agg [(V.int .i64 0), (V.int .i64 0), (V.int .i64 0), (V.inl Zb []), (V.int .i64 0), (V.int .i64 0), (V.int .i64 0), (V.int .i64 0), (V.inl Zi []), (V.inl Ze []), (V.inl Ze [])]), [])
 else Option.bind (Zdl (Zj m)) fun r401 =>
 bif (!r401) then
 some ((V.agg [(V.int .i64 0), (V.int .i64 0), (V.int .i64 0), (V.inl Zb []), (V.int .i64 0), (V.int .i64 0), (V.int .i64 0), (V.int .i64 0), (V.inl Zi []), (V.inl Ze []), (V.inl Ze [])]), [])
 else bif (!(decide ((gi m 2) = (gi n 0)))) then
 some ((V.agg [(V.int .i64 0), (V.int .i64 0), (V.int .i64 0), (V.inl Zb []), (V.int .i64 0), (V.int .i64 0), (V.int .i64 0), (V.int .i64 0), (V.inl Zi []), (V.inl Ze []), (V.inl Ze [])]), [])
 else bif (decide (servers ≤ (gi m 1))) then
 some ((V.agg [(V.int .i64 0), (V.int .i64 0), (V.int .i64 0), (V.inl Zb []), (V.int .i64 0), (V.int .i64 0), (V.int .i64 0), (V.int .i64 0), (V.inl Zi []), (V.inl Ze []), (V.inl Ze [])]), [])
 else Option.bind (ZdA (Zc n)) fun r411 =>
 Option.bind (Zae (V.agg [(V.int .i64 (gi r411 0)), (V.int .i64 (gi r411 1)), (V.int .i64 (gi r411 2)), (V.inl Zb (gl r411 3)), (V.int .i64 (gi r411 4)), (V.int .i64 (gi r411 5)), (V.int .i64 (gi r411 6)), (V.int .i64 (gi r411 7)), (V.inl Zi (gl r411 8)), (V.inl Ze (gl r411 9)), (V.inl Ze (gl r411 10)), (V.inl Zk [])]) (Zj m)) fun r458 =>
 some ((Zc r458), (gl r458 11))
def Zdm (n : Int) : Bool :=
 bif (decide ((1 : Int) ≤ n)) then
 (decide (n ≤ 5))
 else false
def Zec (n : Int) : Bool :=
 bif (decide ((0 : Int) ≤ n)) then
 (decide (n ≤ 100000))
 else false
def ZdX (n : Int) (servers : Int) : Bool :=
 bif (decide ((-1 : Int) ≤ n)) then
 (decide (n < servers))
 else false
def spec_l2val (b : List V) : Bool :=
 (decide (((b.length : Nat) : Int) ≤ 20))
def spec_l2index (n : Int) : Bool :=
 bif (decide ((0 : Int) ≤ n)) then
 (decide (n ≤ 1000000))
 else false
def Zbj : Nat → List V → Int → Option (Nat × Bool)
 | 0, _, _ => none
 | k_ + 1, b0, i3 =>
 bif (decide (i3 < ((b0.length : Nat) : Int))) then
 bif (Zq i3 b0.length) then
 bif (decide ((gi (rd b0 i3.toNat) 0) < 97)) then
 bif (Zq i3 b0.length) then
 bif (!(decide ((gi (rd b0 i3.toNat) 0) = 47))) then
 some (0, false)
 else Zbj k_ b0 (IntKind.i64.wrap (i3 + 1))
 else none
 else bif (Zq i3 b0.length) then
 bif (decide ((122 : Int) < (gi (rd b0 i3.toNat) 0))) then
 bif (Zq i3 b0.length) then
 bif (!(decide ((gi (rd b0 i3.toNat) 0) = 47))) then
 some (0, false)
 else Zbj k_ b0 (IntKind.i64.wrap (i3 + 1))
 else none
 else Zbj k_ b0 (IntKind.i64.wrap (i3 + 1))
 else none
 else none
 else some (1, false)
def ZcF (b : List V) : Option (Bool) :=
 bif (decide (((b.length : Nat) : Int) < 1)) then
 some false
 else bif (decide ((20 : Int) < ((b.length : Nat) : Int))) then
 some false
 else Option.bind (Zbj ((((b.length : Nat) : Int) - 0).toNat + 1) b 0) fun r460 =>
 bif (Nat.beq r460.1 0) then
 some r460.2
 else some true
def spec_OpOk (o : V) : Option (Bool) :=
 bif (decide ((gi o 0) < 0)) then
 some false
 else bif (decide ((7 : Int) < (gi o 0))) then
 some false
 else bif (!(spec_l2val (gl o 2))) then
 some false
 else bif (!(spec_l2index (gi o 3))) then
 some false
 else bif (decide ((gi o 0) = 1)) then
 Option.bind (ZcF (gl o 1)) fun r461 =>
 bif (!r461) then
 some false
 else bif (decide ((gi o 0) = 1)) then
 bif (decide ((gi o 0) = 0)) then
 some (decide ((gi o 3) = 0))
 else bif (decide ((gi o 0) = 1)) then
 some (decide ((gi o 3) = 0))
 else bif (decide ((gi o 0) = 3)) then
 some (decide ((gi o 3) = 0))
 else bif (decide ((gi o 0) = 4)) then
 some (decide ((gi o 3) ≤ 1))
 else bif (decide ((gi o 0) = 2)) then
 some true
 else some (decide ((1 : Int) ≤ (gi o 3)))
 else bif (decide ((gi o 0) = 2)) then
 bif (decide ((gi o 0) = 0)) then
 some (decide ((gi o 3) = 0))
 else bif (decide ((gi o 0) = 1)) then
 some (decide ((gi o 3) = 0))
 else bif (decide ((gi o 0) = 3)) then
 some (decide ((gi o 3) = 0))
 else bif (decide ((gi o 0) = 4)) then
 some (decide ((gi o 3) ≤ 1))
 else bif (decide ((gi o 0) = 2)) then
 some true
 else some (decide ((1 : Int) ≤ (gi o 3)))
 else bif (!(decide ((gi o 0) = 6))) then
 bif (decide ((0 : Int) < (((gl o 2).length : Nat) : Int))) then
 some false
 else bif (decide ((gi o 0) = 0)) then
 some (decide ((gi o 3) = 0))
 else bif (decide ((gi o 0) = 1)) then
 some (decide ((gi o 3) = 0))
 else bif (decide ((gi o 0) = 3)) then
 some (decide ((gi o 3) = 0))
 else bif (decide ((gi o 0) = 4)) then
 some (decide ((gi o 3) ≤ 1))
 else bif (decide ((gi o 0) = 2)) then
 some true
 else some (decide ((1 : Int) ≤ (gi o 3)))
 else bif (decide ((gi o 0) = 0)) then
 some (decide ((gi o 3) = 0))
 else bif (decide ((gi o 0) = 1)) then
 some (decide ((gi o 3) = 0))
 else bif (decide ((gi o 0) = 3)) then
 some (decide ((gi o 3) = 0))
 else bif (decide ((gi o 0) = 4)) then
 some (decide ((gi o 3) ≤ 1))
 else bif (decide ((gi o 0) = 2)) then
 some true
 else some (decide ((1 : Int) ≤ (gi o 3)))
 else bif (decide ((gi o 0) = 2)) then
 Option.bind (ZcF (gl o 1)) fun r462 =>
 bif (!r462) then
 some false
 else bif (decide ((gi o 0) = 1)) then
 bif (decide ((gi o 0) = 0)) then
 some (decide ((gi o 3) = 0))
 else bif (decide ((gi o 0) = 1)) then
 some (decide ((gi o 3) = 0))
 else bif (decide ((gi o 0) = 3)) then
 some (decide ((gi o 3) = 0))
 else bif (decide ((gi o 0) = 4)) then
 some (decide ((gi o 3) ≤ 1))
 else bif (decide ((gi o 0) = 2)) then
 some true
 else some (decide ((1 : Int) ≤ (gi o 3)))
 else bif (decide ((gi o 0) = 2)) then
 bif (decide ((gi o 0) = 0)) then
 some (decide ((gi o 3) = 0))
 else bif (decide ((gi o 0) = 1)) then
 some (decide ((gi o 3) = 0))
 else bif (decide ((gi o 0) = 3)) then
 some (decide ((gi o 3) = 0))
 else bif (decide ((gi o 0) = 4)) then
 some (decide ((gi o 3) ≤ 1))
 else bif (decide ((gi o 0) = 2)) then
 some true
 else some (decide ((1 : Int) ≤ (gi o 3)))
 else bif (!(decide ((gi o 0) = 6))) then
 bif (decide ((0 : Int) < (((gl o 2).length : Nat) : Int))) then
 some false
 else bif (decide ((gi o 0) = 0)) then
 some (decide ((gi o 3) = 0))
 else bif (decide ((gi o 0) = 1)) then
 some (decide ((gi o 3) = 0))
 else bif (decide ((gi o 0) = 3)) then
 some (decide ((gi o 3) = 0))
 else bif (decide ((gi o 0) = 4)) then
 some (decide ((gi o 3) ≤ 1))
 else bif (decide ((gi o 0) = 2)) then
 some true
 else some (decide ((1 : Int) ≤ (gi o 3)))
 else bif (decide ((gi o 0) = 0)) then
 some (decide ((gi o 3) = 0))
 else bif (decide ((gi o 0) = 1)) then
 some (decide ((gi o 3) = 0))
 else bif (decide ((gi o 0) = 3)) then
 some (decide ((gi o 3) = 0))
 else bif (decide ((gi o 0) = 4)) then
 some (decide ((gi o 3) ≤ 1))
 else bif (decide ((gi o 0) = 2)) then
 some true
 else some (decide ((1 : Int) ≤ (gi o 3)))
 else bif (decide ((gi o 0) = 3)) then
 Option.bind (ZcF (gl o 1)) fun r463 =>
 bif (!r463) then
 some false
 else bif (decide ((gi o 0) = 1)) then
 bif (decide ((gi o 0) = 0)) then
 some (decide ((gi o 3) = 0))
 else bif (decide ((gi o 0) = 1)) then
 some (decide ((gi o 3) = 0))
 else bif (decide ((gi o 0) = 3)) then
 some (decide ((gi o 3) = 0))
 else bif (decide ((gi o 0) = 4)) then
 some (decide ((gi o 3) ≤ 1))
 else bif (decide ((gi o 0) = 2)) then
 some true
 else some (decide ((1 : Int) ≤ (gi o 3)))
 else bif (decide ((gi o 0) = 2)) then
 bif (decide ((gi o 0) = 0)) then
 some (decide ((gi o 3) = 0))
 else bif (decide ((gi o 0) = 1)) then
 some (decide ((gi o 3) = 0))
 else bif (decide ((gi o 0) = 3)) then
 some (decide ((gi o 3) = 0))
 else bif (decide ((gi o 0) = 4)) then
 some (decide ((gi o 3) ≤ 1))
 else bif (decide ((gi o 0) = 2)) then
 some true
 else some (decide ((1 : Int) ≤ (gi o 3)))
 else bif (!(decide ((gi o 0) = 6))) then
 bif (decide ((0 : Int) < (((gl o 2).length : Nat) : Int))) then
 some false
 else bif (decide ((gi o 0) = 0)) then
 some (decide ((gi o 3) = 0))
 else bif (decide ((gi o 0) = 1)) then
 some (decide ((gi o 3) = 0))
 else bif (decide ((gi o 0) = 3)) then
 some (decide ((gi o 3) = 0))
 else bif (decide ((gi o 0) = 4)) then
 some (decide ((gi o 3) ≤ 1))
 else bif (decide ((gi o 0) = 2)) then
 some true
 else some (decide ((1 : Int) ≤ (gi o 3)))
 else bif (decide ((gi o 0) = 0)) then
 some (decide ((gi o 3) = 0))
 else bif (decide ((gi o 0) = 1)) then
 some (decide ((gi o 3) = 0))
 else bif (decide ((gi o 0) = 3)) then
 some (decide ((gi o 3) = 0))
 else bif (decide ((gi o 0) = 4)) then
 some (decide ((gi o 3) ≤ 1))
 else bif (decide ((gi o 0) = 2)) then
 some true
 else some (decide ((1 : Int) ≤ (gi o 3)))
 else bif (decide ((gi o 0) = 6)) then
 Option.bind (ZcF (gl o 1)) fun r464 =>
 bif (!r464) then
 some false
 else bif (decide ((gi o 0) = 1)) then
 bif (decide ((gi o 0) = 0)) then
 some (decide ((gi o 3) = 0))
 else bif (decide ((gi o 0) = 1)) then
 some (decide ((gi o 3) = 0))
 else bif (decide ((gi o 0) = 3)) then
 some (decide ((gi o 3) = 0))
 else bif (decide ((gi o 0) = 4)) then
 some (decide ((gi o 3) ≤ 1))
 else bif (decide ((gi o 0) = 2)) then
 some true
 else some (decide ((1 : Int) ≤ (gi o 3)))
 else bif (decide ((gi o 0) = 2)) then
 bif (decide ((gi o 0) = 0)) then
 some (decide ((gi o 3) = 0))
 else bif (decide ((gi o 0) = 1)) then
 some (decide ((gi o 3) = 0))
 else bif (decide ((gi o 0) = 3)) then
 some (decide ((gi o 3) = 0))
 else bif (decide ((gi o 0) = 4)) then
 some (decide ((gi o 3) ≤ 1))
 else bif (decide ((gi o 0) = 2)) then
 some true
 else some (decide ((1 : Int) ≤ (gi o 3)))
 else bif (!(decide ((gi o 0) = 6))) then
 bif (decide ((0 : Int) < (((gl o 2).length : Nat) : Int))) then
 some false
 else bif (decide ((gi o 0) = 0)) then
 some (decide ((gi o 3) = 0))
 else bif (decide ((gi o 0) = 1)) then
 some (decide ((gi o 3) = 0))
 else bif (decide ((gi o 0) = 3)) then
 some (decide ((gi o 3) = 0))
 else bif (decide ((gi o 0) = 4)) then
 some (decide ((gi o 3) ≤ 1))
 else bif (decide ((gi o 0) = 2)) then
 some true
 else some (decide ((1 : Int) ≤ (gi o 3)))
 else bif (decide ((gi o 0) = 0)) then
 some (decide ((gi o 3) = 0))
 else bif (decide ((gi o 0) = 1)) then
 some (decide ((gi o 3) = 0))
 else bif (decide ((gi o 0) = 3)) then
 some (decide ((gi o 3) = 0))
 else bif (decide ((gi o 0) = 4)) then
 some (decide ((gi o 3) ≤ 1))
 else bif (decide ((gi o 0) = 2)) then
 some true
 else some (decide ((1 : Int) ≤ (gi o 3)))
 else bif (decide ((gi o 0) = 7)) then
 Option.bind (ZcF (gl o 1)) fun r465 =>
 bif (!r465) then
 some false
 else bif (!(decide ((gi o 0) = 7))) then
 bif (decide ((0 : Int) < (((gl o 1).length : Nat) : Int))) then
 some false
 else bif (decide ((gi o 0) = 1)) then
 bif (decide ((gi o 0) = 0)) then
 some (decide ((gi o 3) = 0))
 else bif (decide ((gi o 0) = 1)) then
 some (decide ((gi o 3) = 0))
 else bif (decide ((gi o 0) = 3)) then
 some (decide ((gi o 3) = 0))
 else bif (decide ((gi o 0) = 4)) then
 some (decide ((gi o 3) ≤ 1))
 else bif (decide ((gi o 0) = 2)) then
 some true
 else some (decide ((1 : Int) ≤ (gi o 3)))
 else bif (decide ((gi o 0) = 2)) then
 bif (decide ((gi o 0) = 0)) then
 some (decide ((gi o 3) = 0))
 else bif (decide ((gi o 0) = 1)) then
 some (decide ((gi o 3) = 0))
 else bif (decide ((gi o 0) = 3)) then
 some (decide ((gi o 3) = 0))
 else bif (decide ((gi o 0) = 4)) then
 some (decide ((gi o 3) ≤ 1))
 else bif (decide ((gi o 0) = 2)) then
 some true
 else some (decide ((1 : Int) ≤ (gi o 3)))
 else bif (!(decide ((gi o 0) = 6))) then
 bif (decide ((0 : Int) < (((gl o 2).length : Nat) : Int))) then
 some false
 else bif (decide ((gi o 0) = 0)) then
 some (decide ((gi o 3) = 0))
 else bif (decide ((gi o 0) = 1)) then
 some (decide ((gi o 3) = 0))
 else bif (decide ((gi o 0) = 3)) then
 some (decide ((gi o 3) = 0))
 else bif (decide ((gi o 0) = 4)) then
 some (decide ((gi o 3) ≤ 1))
 else bif (decide ((gi o 0) = 2)) then
 some true
 else some (decide ((1 : Int) ≤ (gi o 3)))
 else bif (decide ((gi o 0) = 0)) then
 some (decide ((gi o 3) = 0))
 else bif (decide ((gi o 0) = 1)) then
 some (decide ((gi o 3) = 0))
 else bif (decide ((gi o 0) = 3)) then
 some (decide ((gi o 3) = 0))
 else bif (decide ((gi o 0) = 4)) then
 some (decide ((gi o 3) ≤ 1))
 else bif (decide ((gi o 0) = 2)) then
 some true
 else some (decide ((1 : Int) ≤ (gi o 3)))
 else bif (decide ((gi o 0) = 1)) then
 bif (decide ((gi o 0) = 0)) then
 some (decide ((gi o 3) = 0))
 else bif (decide ((gi o 0) = 1)) then
 some (decide ((gi o 3) = 0))
 else bif (decide ((gi o 0) = 3)) then
 some (decide ((gi o 3) = 0))
 else bif (decide ((gi o 0) = 4)) then
 some (decide ((gi o 3) ≤ 1))
 else bif (decide ((gi o 0) = 2)) then
 some true
 else some (decide ((1 : Int) ≤ (gi o 3)))
 else bif (decide ((gi o 0) = 2)) then
 bif (decide ((gi o 0) = 0)) then
 some (decide ((gi o 3) = 0))
 else bif (decide ((gi o 0) = 1)) then
 some (decide ((gi o 3) = 0))
 else bif (decide ((gi o 0) = 3)) then
 some (decide ((gi o 3) = 0))
 else bif (decide ((gi o 0) = 4)) then
 some (decide ((gi o 3) ≤ 1))
 else bif (decide ((gi o 0) = 2)) then
 some true
 else some (decide ((1 : Int) ≤ (gi o 3)))
 else bif (!(decide ((gi o 0) = 6))) then
 bif (decide ((0 : Int) < (((gl o 2).length : Nat) : Int))) then
 some false
 else bif (decide ((gi o 0) = 0)) then
 some (decide ((gi o 3) = 0))
 else bif (decide ((gi o 0) = 1)) then
 some (decide ((gi o 3) = 0))
 else bif (decide ((gi o 0) = 3)) then
 some (decide ((gi o 3) = 0))
 else bif (decide ((gi o 0) = 4)) then
 some (decide ((gi o 3) ≤ 1))
 else bif (decide ((gi o 0) = 2)) then
 some true
 else some (decide ((1 : Int) ≤ (gi o 3)))
 else bif (decide ((gi o 0) = 0)) then
 some (decide ((gi o 3) = 0))
 else bif (decide ((gi o 0) = 1)) then
 some (decide ((gi o 3) = 0))
 else bif (decide ((gi o 0) = 3)) then
 some (decide ((gi o 3) = 0))
 else bif (decide ((gi o 0) = 4)) then
 some (decide ((gi o 3) ≤ 1))
 else bif (decide ((gi o 0) = 2)) then
 some true
 else some (decide ((1 : Int) ≤ (gi o 3)))
 else bif (!(decide ((gi o 0) = 7))) then
 bif (decide ((0 : Int) < (((gl o 1).length : Nat) : Int))) then
 some false
 else bif (decide ((gi o 0) = 1)) then
 bif (decide ((gi o 0) = 0)) then
 some (decide ((gi o 3) = 0))
 else bif (decide ((gi o 0) = 1)) then
 some (decide ((gi o 3) = 0))
 else bif (decide ((gi o 0) = 3)) then
 some (decide ((gi o 3) = 0))
 else bif (decide ((gi o 0) = 4)) then
 some (decide ((gi o 3) ≤ 1))
 else bif (decide ((gi o 0) = 2)) then
 some true
 else some (decide ((1 : Int) ≤ (gi o 3)))
 else bif (decide ((gi o 0) = 2)) then
 bif (decide ((gi o 0) = 0)) then
 some (decide ((gi o 3) = 0))
 else bif (decide ((gi o 0) = 1)) then
 some (decide ((gi o 3) = 0))
 else bif (decide ((gi o 0) = 3)) then
 some (decide ((gi o 3) = 0))
 else bif (decide ((gi o 0) = 4)) then
 some (decide ((gi o 3) ≤ 1))
 else bif (decide ((gi o 0) = 2)) then
 some true
 else some (decide ((1 : Int) ≤ (gi o 3)))
 else bif (!(decide ((gi o 0) = 6))) then
 bif (decide ((0 : Int) < (((gl o 2).length : Nat) : Int))) then
 some false
 else bif (decide ((gi o 0) = 0)) then
 some (decide ((gi o 3) = 0))
 else bif (decide ((gi o 0) = 1)) then
 some (decide ((gi o 3) = 0))
 else bif (decide ((gi o 0) = 3)) then
 some (decide ((gi o 3) = 0))
 else bif (decide ((gi o 0) = 4)) then
 some (decide ((gi o 3) ≤ 1))
 else bif (decide ((gi o 0) = 2)) then
 some true
 else some (decide ((1 : Int) ≤ (gi o 3)))
 else bif (decide ((gi o 0) = 0)) then
 some (decide ((gi o 3) = 0))
 else bif (decide ((gi o 0) = 1)) then
 some (decide ((gi o 3) = 0))
 else bif (decide ((gi o 0) = 3)) then
 some (decide ((gi o 3) = 0))
 else bif (decide ((gi o 0) = 4)) then
 some (decide ((gi o 3) ≤ 1))
 else bif (decide ((gi o 0) = 2)) then
 some true
 else some (decide ((1 : Int) ≤ (gi o 3)))
 else bif (decide ((gi o 0) = 1)) then
 bif (decide ((gi o 0) = 0)) then
 some (decide ((gi o 3) = 0))
 else bif (decide ((gi o 0) = 1)) then
 some (decide ((gi o 3) = 0))
 else bif (decide ((gi o 0) = 3)) then
 some (decide ((gi o 3) = 0))
 else bif (decide ((gi o 0) = 4)) then
 some (decide ((gi o 3) ≤ 1))
 else bif (decide ((gi o 0) = 2)) then
 some true
 else some (decide ((1 : Int) ≤ (gi o 3)))
 else bif (decide ((gi o 0) = 2)) then
 bif (decide ((gi o 0) = 0)) then
 some (decide ((gi o 3) = 0))
 else bif (decide ((gi o 0) = 1)) then
 some (decide ((gi o 3) = 0))
 else bif (decide ((gi o 0) = 3)) then
 some (decide ((gi o 3) = 0))
 else bif (decide ((gi o 0) = 4)) then
 some (decide ((gi o 3) ≤ 1))
 else bif (decide ((gi o 0) = 2)) then
 some true
 else some (decide ((1 : Int) ≤ (gi o 3)))
 else bif (!(decide ((gi o 0) = 6))) then
 bif (decide ((0 : Int) < (((gl o 2).length : Nat) : Int))) then
 some false
 else bif (decide ((gi o 0) = 0)) then
 some (decide ((gi o 3) = 0))
 else bif (decide ((gi o 0) = 1)) then
 some (decide ((gi o 3) = 0))
 else bif (decide ((gi o 0) = 3)) then
 some (decide ((gi o 3) = 0))
 else bif (decide ((gi o 0) = 4)) then
 some (decide ((gi o 3) ≤ 1))
 else bif (decide ((gi o 0) = 2)) then
 some true
 else some (decide ((1 : Int) ≤ (gi o 3)))
 else bif (decide ((gi o 0) = 0)) then
 some (decide ((gi o 3) = 0))
 else bif (decide ((gi o 0) = 1)) then
 some (decide ((gi o 3) = 0))
 else bif (decide ((gi o 0) = 3)) then
 some (decide ((gi o 3) = 0))
 else bif (decide ((gi o 0) = 4)) then
 some (decide ((gi o 3) ≤ 1))
 else bif (decide ((gi o 0) = 2)) then
 some true
 else some (decide ((1 : Int) ≤ (gi o 3)))
def spec_CmdOk (c : V) : Option (Bool) :=
 bif (decide ((gi c 0) = (-1))) then
 bif (decide ((gi c 1) = 0)) then
 bif (decide ((gi c 2) = 0)) then
 Option.bind (spec_OpOk (V.agg [(V.int .i64 (gi c 2)), (V.inl Zf (gl c 3)), (V.inl Zf (gl c 4)), (V.int .i64 (gi c 5))])) fun r466 =>
 some r466
 else some false
 else some false
 else bif (decide ((0 : Int) ≤ (gi c 0))) then
 bif (decide ((gi c 0) < 4)) then
 bif (decide ((1 : Int) ≤ (gi c 1))) then
 bif (decide ((gi c 1) ≤ 1000000)) then
 Option.bind (spec_OpOk (V.agg [(V.int .i64 (gi c 2)), (V.inl Zf (gl c 3)), (V.inl Zf (gl c 4)), (V.int .i64 (gi c 5))])) fun r467 =>
 some r467
 else some false
 else some false
 else some false
 else some false
def Zds (x : V) : Option (Bool) :=
 bif (decide ((1 : Int) ≤ (gi x 0))) then
 bif (decide ((gi x 0) ≤ 100000)) then
 Option.bind (spec_CmdOk (V.agg [(V.int .i64 (gi x 1)), (V.int .i64 (gi x 2)), (V.int .i64 (gi x 3)), (V.inl Zf (gl x 4)), (V.inl Zf (gl x 5)), (V.int .i64 (gi x 6))])) fun r468 =>
 some r468
 else some false
 else some false
def ZaQ : Nat → Int → Int → V → Option (Nat × Int × Bool × V)
 | 0, _, _, _ => none
 | k_ + 1, servers1, i5, b0 =>
 bif (decide (i5 < (((gl b0 3).length : Nat) : Int))) then
 bif (Zq i5 ((gl b0 3).length)) then
 Option.bind (Zds (Zp (rd (gl b0 3) i5.toNat))) fun r469 =>
 bif (!r469) then
 some (0, servers1, false, (Zc b0))
 else bif (Zq i5 ((gl b0 3).length)) then
 bif (decide ((gi b0 1) < (gi (rd (gl b0 3) i5.toNat) 0))) then
 some (0, servers1, false, (Zc b0))
 else bif (decide ((0 : Int) < i5)) then
 bif (Zq (IntKind.i64.wrap (i5 - 1)) ((gl b0 3).length)) then
 bif (Zq i5 ((gl b0 3).length)) then
 bif (decide ((gi (rd (gl b0 3) i5.toNat) 0) < (gi (rd (gl b0 3) ((IntKind.i64.wrap (i5 - 1)).toNat)) 0))) then
 some (0, servers1, false, (Zc b0))
 else ZaQ k_ servers1 (IntKind.i64.wrap (i5 + 1)) (Zc b0)
 else none
 else none
 else ZaQ k_ servers1 (IntKind.i64.wrap (i5 + 1)) (Zc b0)
 else none
 else none
 else some (1, servers1, false, (Zc b0))
def ZS : Nat → Int → Int → V → Option (Nat × Bool × V)
 | 0, _, _, _ => none
 | k_ + 1, servers1, i6, b0 =>
 bif (decide (i6 < servers1)) then
 bif (decide ((gi b0 5) = 2)) then
 bif (Zq i6 ((gl b0 9).length)) then
 bif (decide ((gi (rd (gl b0 9) i6.toNat) 0) < 1)) then
 some (0, false, (Zc b0))
 else bif (Zq i6 ((gl b0 9).length)) then
 bif (decide ((IntKind.i64.wrap ((((gl b0 3).length : Nat) : Int) + 1)) < (gi (rd (gl b0 9) i6.toNat) 0))) then
 some (0, false, (Zc b0))
 else bif (Zq i6 ((gl b0 10).length)) then
 bif (decide ((gi (rd (gl b0 10) i6.toNat) 0) < 0)) then
 some (0, false, (Zc b0))
 else bif (Zq i6 ((gl b0 10).length)) then
 bif (decide ((((gl b0 3).length : Nat) : Int) < (gi (rd (gl b0 10) i6.toNat) 0))) then
 some (0, false, (Zc b0))
 else bif (!(decide ((gi b0 5) = 2))) then
 bif (Zq i6 ((gl b0 9).length)) then
 bif (!(decide ((gi (rd (gl b0 9) i6.toNat) 0) = 0))) then
 some (0, false, (Zc b0))
 else bif (Zq i6 ((gl b0 10).length)) then
 bif (!(decide ((gi (rd (gl b0 10) i6.toNat) 0) = 0))) then
 some (0, false, (Zc b0))
 else bif (decide ((gi b0 5) = 0)) then
 bif (Zq i6 ((gl b0 8).length)) then
 bif (gb (rd (gl b0 8) i6.toNat) 0) then
 some (0, false, (Zc b0))
 else ZS k_ servers1 (IntKind.i64.wrap (i6 + 1)) (Zc b0)
 else none
 else ZS k_ servers1 (IntKind.i64.wrap (i6 + 1)) (Zc b0)
 else none
 else none
 else bif (decide ((gi b0 5) = 0)) then
 bif (Zq i6 ((gl b0 8).length)) then
 bif (gb (rd (gl b0 8) i6.toNat) 0) then
 some (0, false, (Zc b0))
 else ZS k_ servers1 (IntKind.i64.wrap (i6 + 1)) (Zc b0)
 else none
 else ZS k_ servers1 (IntKind.i64.wrap (i6 + 1)) (Zc b0)
 else none
 else none
 else none
 else none
 else bif (!(decide ((gi b0 5) = 2))) then
 bif (Zq i6 ((gl b0 9).length)) then
 bif (!(decide ((gi (rd (gl b0 9) i6.toNat) 0) = 0))) then
 some (0, false, (Zc b0))
 else bif (Zq i6 ((gl b0 10).length)) then
 bif (!(decide ((gi (rd (gl b0 10) i6.toNat) 0) = 0))) then
 some (0, false, (Zc b0))
 else bif (decide ((gi b0 5) = 0)) then
 bif (Zq i6 ((gl b0 8).length)) then
 bif (gb (rd (gl b0 8) i6.toNat) 0) then
 some (0, false, (Zc b0))
 else ZS k_ servers1 (IntKind.i64.wrap (i6 + 1)) (Zc b0)
 else none
 else ZS k_ servers1 (IntKind.i64.wrap (i6 + 1)) (Zc b0)
 else none
 else none
 else bif (decide ((gi b0 5) = 0)) then
 bif (Zq i6 ((gl b0 8).length)) then
 bif (gb (rd (gl b0 8) i6.toNat) 0) then
 some (0, false, (Zc b0))
 else ZS k_ servers1 (IntKind.i64.wrap (i6 + 1)) (Zc b0)
 else none
 else ZS k_ servers1 (IntKind.i64.wrap (i6 + 1)) (Zc b0)
 else some (1, false, (Zc b0))
def Zed (n : V) (servers : Int) : Option (Bool) :=
 bif (!(Zdm servers)) then
 some false
 else bif (decide ((gi n 0) < 0)) then
 some false
 else bif (decide (servers ≤ (gi n 0))) then
 some false
 else bif (!(Zec (gi n 1))) then
 some false
 else bif (!(ZdX (gi n 2) servers)) then
 some false
 else bif (decide ((400 : Int) < (((gl n 3).length : Nat) : Int))) then
 some false
 else bif (decide ((gi n 4) < 0)) then
 some false
 else bif (decide ((((gl n 3).length : Nat) : Int) < (gi n 4))) then
 some false
 else bif (decide ((gi n 5) < 0)) then
 some false
 else bif (decide ((2 : Int) < (gi n 5))) then
 some false
 else bif (!(ZdX (gi n 6) servers)) then
 some false
 else bif (decide ((gi n 7) < 0)) then
 some false
 else bif (decide ((20 : Int) < (gi n 7))) then
 some false
 else bif (!(decide ((((gl n 8).length : Nat) : Int) = servers))) then
 some false
 else bif (!(decide ((((gl n 9).length : Nat) : Int) = servers))) then
 some false
 else bif (!(decide ((((gl n 10).length : Nat) : Int) = servers))) then
 some false
 else Option.bind (ZaQ (((((gl (Zc n) 3).length : Nat) : Int) - 0).toNat + 1) servers 0 (Zc n)) fun r470 =>
 bif (Nat.beq r470.1 0) then
 some r470.2.2.1
 else bif (!(decide ((gi r470.2.2.2 5) = 0))) then
 bif (decide ((gi r470.2.2.2 1) < 1)) then
 some false
 else bif (!(decide ((gi r470.2.2.2 2) = (gi r470.2.2.2 0)))) then
 some false
 else Option.bind (ZS ((r470.2.1 - 0).toNat + 1) r470.2.1 0 (Zc r470.2.2.2)) fun r471 =>
 bif (Nat.beq r471.1 0) then
 some r471.2.1
 else bif (!(decide ((gi r471.2.2 5) = 2))) then
 some true
 else some (decide ((gi r471.2.2 6) = (gi r471.2.2 0)))
 else Option.bind (ZS ((r470.2.1 - 0).toNat + 1) r470.2.1 0 (Zc r470.2.2.2)) fun r472 =>
 bif (Nat.beq r472.1 0) then
 some r472.2.1
 else bif (!(decide ((gi r472.2.2 5) = 2))) then
 some true
 else some (decide ((gi r472.2.2 6) = (gi r472.2.2 0)))
def Zcv (n : V) (servers : Int) : Option (Bool) :=
 Option.bind (Zc8 (Zc n) servers) fun r474 =>
 bif r474 then
 some (decide ((gi n 5) = 2))
 else some false
def ZbZ (i : Int) (a1 : V) : Option (Bool) :=
 bif (Zq i ((gl a1 10).length)) then
 some (decide ((((gl a1 3).length : Nat) : Int) ≤ (gi (rd (gl a1 10) i.toNat) 0)))
 else none
def Zah : Nat → List V → V → Int → Int → Option (Nat × Int)
 | 0, _, _, _, _ => none
 | k_ + 1, s0, f1_0, v7, v8 =>
 bif (decide (v8 < v7)) then
 bif (Zq v8 s0.length) then
 Option.bind (ZbZ (gi (rd s0 v8.toNat) 0) (Zc f1_0)) fun r477 =>
 bif r477 then
 some (0, v8)
 else Zah k_ s0 (Zc f1_0) v7 (IntKind.i64.wrap (v8 + 1))
 else none
 else some (1, 0)
def Zbw (s : List V) (f_0 : V) : Option (Int) :=
 Option.bind (Zah ((((s.length : Nat) : Int) - 0).toNat + 1) s (Zc f_0) ((s.length : Nat) : Int) 0) fun r478 =>
 bif (Nat.beq r478.1 0) then
 some r478.2
 else some (-1)
def Zaq : Nat → V → Int → Int → List V → Option (Int × List V)
 | 0, _, _, _, _ => none
 | k_ + 1, del1_0, i5, j6, r0 =>
 bif (decide (j6 < ((r0.length : Nat) : Int))) then
 bif (Zq j6 r0.length) then
 Option.bind (ZbZ (gi (rd r0 (0 + j6.toNat)) 0) (Zc del1_0)) fun r480 =>
 bif (!r480) then
 bif (Zq i5 r0.length) then
 Zaq k_ (Zc del1_0) (IntKind.i64.wrap (i5 + 1)) (IntKind.i64.wrap (j6 + 1)) (r0.set (0 + i5.toNat) (V.int .i64 (gi (rd r0 (0 + j6.toNat)) 0)))
 else none
 else Zaq k_ (Zc del1_0) i5 (IntKind.i64.wrap (j6 + 1)) r0
 else none
 else some (i5, r0)
def ZbS (s : List V) (del_0 : V) : Option (List V) :=
 Option.bind (Zbw s (Zc del_0)) fun r479 =>
 bif (decide (r479 = (-1))) then
 some s
 else Option.bind (Zaq ((((s.length : Nat) : Int) - (IntKind.i64.wrap (r479 + 1))).toNat + 1) (Zc del_0) r479 (IntKind.i64.wrap (r479 + 1)) s) fun r481 =>
 bif ((decide ((0 : Int) ≤ r481.1)) && (decide (r481.1 ≤ ((r481.2.length : Nat) : Int)))) then
 bif ((decide ((0 : Int) ≤ r481.1)) && (decide (r481.1 ≤ (((((r481.2.take (0 + r481.1.toNat)) ++ (List.replicate ((r481.2.drop (0 + r481.1.toNat)).length) (V.int .i64 0))) ++ (r481.2.drop ((0 + r481.1.toNat) + ((r481.2.drop (0 + r481.1.toNat)).length)))).length : Nat) : Int)))) then
 some ((((r481.2.take (0 + r481.1.toNat)) ++ (List.replicate ((r481.2.drop (0 + r481.1.toNat)).length) (V.int .i64 0))) ++ (r481.2.drop ((0 + r481.1.toNat) + ((r481.2.drop (0 + r481.1.toNat)).length)))).take r481.1.toNat)
 else none
 else none
def Zbf (n : V) (servers : Int) : Option (List V) :=
 Option.bind (Zcv (Zc n) servers) fun r475 =>
 bif (!r475) then
 some []
 else Option.bind (Zbl (Zc n)) fun r476 =>
 Option.bind (ZbS r476 (Zc n)) fun r482 =>
 some r482
def Zas : Nat → Int → Int → Int → Int → V → List V → Option (Int)
 | 0, _, _, _, _, _, _ => none
 | k_ + 1, place2, count7, v24, v25, b0, r1 =>
 bif (decide (v25 < v24)) then
 bif (Zq v25 r1.length) then
 bif (Zq (gi (rd r1 (0 + v25.toNat)) 0) ((gl b0 10).length)) then
 bif (decide (place2 ≤ (gi (rd (gl b0 10) ((gi (rd r1 (0 + v25.toNat)) 0).toNat)) 0))) then
 Zas k_ place2 (IntKind.i64.wrap (count7 + 1)) v24 (IntKind.i64.wrap (v25 + 1)) (Zc b0) r1
 else Zas k_ place2 count7 v24 (IntKind.i64.wrap (v25 + 1)) (Zc b0) r1
 else none
 else none
 else some count7
def Zbg (n : V) (servers : Int) (ZQ : Int) : Option (Int) :=
 Option.bind (Zcv (Zc n) servers) fun r485 =>
 bif (!r485) then
 some 0
 else bif (!(Zo ZQ 1 (((gl n 3).length : Nat) : Int))) then
 some 0
 else Option.bind (Zbl (Zc n)) fun r486 =>
 Option.bind (Zas ((((r486.length : Nat) : Int) - 0).toNat + 1) ZQ 1 ((r486.length : Nat) : Int) 0 (Zc n) r486) fun r487 =>
 some r487
def Zdt (n : V) (servers : Int) (ZQ : Int) : Option (Int) :=
 Option.bind (Zc8 (Zc n) servers) fun r489 =>
 bif (!r489) then
 some 0
 else Option.bind (Zad (Zc n) ZQ) fun r490 =>
 some r490
def ZaK : Nat → List V → Int → Int → Int → Option (Nat × Int)
 | 0, _, _, _, _ => none
 | k_ + 1, s0, v1, v7, v8 =>
 bif (decide (v8 < v7)) then
 bif (Zq v8 s0.length) then
 bif (decide (v1 = (gi (rd s0 v8.toNat) 0))) then
 some (0, v8)
 else ZaK k_ s0 v1 v7 (IntKind.i64.wrap (v8 + 1))
 else none
 else some (1, 0)
def ZdF (s : List V) (v : Int) : Option (Int) :=
 Option.bind (ZaK ((((s.length : Nat) : Int) - 0).toNat + 1) s v ((s.length : Nat) : Int) 0) fun r495 =>
 bif (Nat.beq r495.1 0) then
 some r495.2
 else some (-1)
def Zcp (s : List V) (v : Int) : Option (Bool) :=
 Option.bind (ZdF s v) fun r496 =>
 some (decide ((0 : Int) ≤ r496))
def Zee (n : V) (servers : Int) (to : Int) : Option (V × Bool) :=
 Option.bind (Zcv (Zc n) servers) fun r493 =>
 bif (!r493) then
 some ((V.agg [(V.int .i64 0), (V.int .i64 0), (V.int .i64 0), (V.int .i64 0), (V.int .i64 0), (V.int .i64 0), (V.inl Zb []), (V.int .i64 0), (V.bool false)]), false)
 else Option.bind (Zbl (Zc n)) fun r494 =>
 Option.bind (Zcp r494 to) fun r497 =>
 bif (!r497) then
 some ((V.agg [(V.int .i64 0), (V.int .i64 0), (V.int .i64 0), (V.int .i64 0), (V.int .i64 0), (V.int .i64 0), (V.inl Zb []), (V.int .i64 0), (V.bool false)]), false)
 else Option.bind (Zb1 (Zc n) to) fun r498 =>
 some ((Zj r498), true)
def Zal : Nat → Int → Int → V → List V → List V → List V → List V → List V → Option (Nat × Bool × Int × V × List V × List V × List V × List V × List V)
 | 0, _, _, _, _, _, _, _, _ => none
 | k_ + 1, k4, i9, b0, r1, r2, r3, r4, r5 =>
 bif (decide (i9 < ((r1.length : Nat) : Int))) then
 bif (Zq i9 r1.length) then
 Option.bind (Zee (V.agg [(V.int .i64 (gi b0 0)), (V.int .i64 (gi b0 1)), (V.int .i64 (gi b0 2)), (V.inl Zb r2), (V.int .i64 (gi b0 4)), (V.int .i64 (gi b0 5)), (V.int .i64 (gi b0 6)), (V.int .i64 (gi b0 7)), (V.inl Zi r3), (V.inl Ze r4), (V.inl Ze r5)]) k4 (gi (rd r1 (0 + i9.toNat)) 0)) fun r499 =>
 bif (!r499.2) then
 some (0, false, k4, (V.agg [(V.int .i64 (gi b0 0)), (V.int .i64 (gi b0 1)), (V.int .i64 (gi b0 2)), (V.sl 2 Zb 0 none), (V.int .i64 (gi b0 4)), (V.int .i64 (gi b0 5)), (V.int .i64 (gi b0 6)), (V.int .i64 (gi b0 7)), (V.sl 3 Zi 0 none), (V.sl 4 Ze 0 none), (V.sl 5 Ze 0 none)]), r1, r2, r3, r4, r5)
 else Option.bind (Zdl (Zj r499.1)) fun r500 =>
 bif (!r500) then
 some (0, false, k4, (V.agg [(V.int .i64 (gi b0 0)), (V.int .i64 (gi b0 1)), (V.int .i64 (gi b0 2)), (V.sl 2 Zb 0 none), (V.int .i64 (gi b0 4)), (V.int .i64 (gi b0 5)), (V.int .i64 (gi b0 6)), (V.int .i64 (gi b0 7)), (V.sl 3 Zi 0 none), (V.sl 4 Ze 0 none), (V.sl 5 Ze 0 none)]), r1, r2, r3, r4, r5)
 else bif (Zq i9 r1.length) then
 bif (!(decide ((gi r499.1 2) = (gi (rd r1 (0 + i9.toNat)) 0)))) then
 some (0, false, k4, (V.agg [(V.int .i64 (gi b0 0)), (V.int .i64 (gi b0 1)), (V.int .i64 (gi b0 2)), (V.sl 2 Zb 0 none), (V.int .i64 (gi b0 4)), (V.int .i64 (gi b0 5)), (V.int .i64 (gi b0 6)), (V.int .i64 (gi b0 7)), (V.sl 3 Zi 0 none), (V.sl 4 Ze 0 none), (V.sl 5 Ze 0 none)]), r1, r2, r3, r4, r5)
 else bif (Zq i9 r1.length) then
 bif (Zq (gi (rd r1 (0 + i9.toNat)) 0) r4.length) then
 bif (!(decide ((gi r499.1 4) = (IntKind.i64.wrap ((gi (rd r4 (0 + ((gi (rd r1 (0 + i9.toNat)) 0).toNat))) 0) - 1))))) then
 some (0, false, k4, (V.agg [(V.int .i64 (gi b0 0)), (V.int .i64 (gi b0 1)), (V.int .i64 (gi b0 2)), (V.sl 2 Zb 0 none), (V.int .i64 (gi b0 4)), (V.int .i64 (gi b0 5)), (V.int .i64 (gi b0 6)), (V.int .i64 (gi b0 7)), (V.sl 3 Zi 0 none), (V.sl 4 Ze 0 none), (V.sl 5 Ze 0 none)]), r1, r2, r3, r4, r5)
 else Zal k_ k4 (IntKind.i64.wrap (i9 + 1)) (V.agg [(V.int .i64 (gi b0 0)), (V.int .i64 (gi b0 1)), (V.int .i64 (gi b0 2)), (V.sl 2 Zb 0 none), (V.int .i64 (gi b0 4)), (V.int .i64 (gi b0 5)), (V.int .i64 (gi b0 6)), (V.int .i64 (gi b0 7)), (V.sl 3 Zi 0 none), (V.sl 4 Ze 0 none), (V.sl 5 Ze 0 none)]) r1 r2 r3 r4 r5
 else none
 else none
 else none
 else none
 else some (1, false, k4, (V.agg [(V.int .i64 (gi b0 0)), (V.int .i64 (gi b0 1)), (V.int .i64 (gi b0 2)), (V.sl 2 Zb 0 none), (V.int .i64 (gi b0 4)), (V.int .i64 (gi b0 5)), (V.int .i64 (gi b0 6)), (V.int .i64 (gi b0 7)), (V.sl 3 Zi 0 none), (V.sl 4 Ze 0 none), (V.sl 5 Ze 0 none)]), r1, r2, r3, r4, r5)
def Zcw (code : List V) : Option (Bool) :=
 Option.bind (Zdx code) fun r361 =>
 Option.bind (ZdM (Zc r361.1) r361.2.1 (Zj r361.2.2)) fun r459 =>
 Option.bind (Zed (Zc r459.1) r361.2.1) fun r473 =>
 bif (!r473) then
 Option.bind (Zbf (Zc r459.1) r361.2.1) fun r483 =>
 bif (decide (((r483.length : Nat) : Int) = 0)) then
 some aliveB
 else some false
 else bif (!(decide ((gi r459.1 5) = 2))) then
 Option.bind (Zbf (Zc r459.1) r361.2.1) fun r484 =>
 bif (decide (((r484.length : Nat) : Int) = 0)) then
 some aliveB
 else some false
 else bif (decide ((gi r361.1 4) < (gi r459.1 4))) then
 Option.bind (Zbg (Zc r459.1) r361.2.1 (gi r459.1 4)) fun r488 =>
 bif (decide ((IntKind.i64.wrap (2 * r488)) ≤ r361.2.1)) then
 some false
 else Option.bind (Zdt (Zc r459.1) r361.2.1 (gi r459.1 4)) fun r491 =>
 bif (!(decide (r491 = (gi r459.1 1)))) then
 some false
 else Option.bind (Zbf (Zc r459.1) r361.2.1) fun r492 =>
 Option.bind (Zal ((((r492.length : Nat) : Int) - 0).toNat + 1) r361.2.1 0 (V.agg [(V.int .i64 (gi r459.1 0)), (V.int .i64 (gi r459.1 1)), (V.int .i64 (gi r459.1 2)), (V.sl 2 Zb 0 none), (V.int .i64 (gi r459.1 4)), (V.int .i64 (gi r459.1 5)), (V.int .i64 (gi r459.1 6)), (V.int .i64 (gi r459.1 7)), (V.sl 3 Zi 0 none), (V.sl 4 Ze 0 none), (V.sl 5 Ze 0 none)]) r492 (gl r459.1 3) (gl r459.1 8) (gl r459.1 9) (gl r459.1 10)) fun r501 =>
 bif (Nat.beq r501.1 0) then
 some r501.2.1
 else Option.bind (Zbg (V.agg [(V.int .i64 (gi r501.2.2.2.1 0)), (V.int .i64 (gi r501.2.2.2.1 1)), (V.int .i64 (gi r501.2.2.2.1 2)), (V.inl Zb r501.2.2.2.2.2.1), (V.int .i64 (gi r501.2.2.2.1 4)), (V.int .i64 (gi r501.2.2.2.1 5)), (V.int .i64 (gi r501.2.2.2.1 6)), (V.int .i64 (gi r501.2.2.2.1 7)), (V.inl Zi r501.2.2.2.2.2.2.1), (V.inl Ze r501.2.2.2.2.2.2.2.1), (V.inl Ze r501.2.2.2.2.2.2.2.2)]) r501.2.2.1 ((r501.2.2.2.2.2.1.length : Nat) : Int)) fun r502 =>
 bif (decide (r502 = (IntKind.i64.wrap (r501.2.2.1 - ((r501.2.2.2.2.1.length : Nat) : Int))))) then
 some true
 else some (decide (((r501.2.2.2.2.2.1.length : Nat) : Int) = 0))
 else Option.bind (Zbf (Zc r459.1) r361.2.1) fun r503 =>
 Option.bind (Zal ((((r503.length : Nat) : Int) - 0).toNat + 1) r361.2.1 0 (V.agg [(V.int .i64 (gi r459.1 0)), (V.int .i64 (gi r459.1 1)), (V.int .i64 (gi r459.1 2)), (V.sl 2 Zb 0 none), (V.int .i64 (gi r459.1 4)), (V.int .i64 (gi r459.1 5)), (V.int .i64 (gi r459.1 6)), (V.int .i64 (gi r459.1 7)), (V.sl 3 Zi 0 none), (V.sl 4 Ze 0 none), (V.sl 5 Ze 0 none)]) r503 (gl r459.1 3) (gl r459.1 8) (gl r459.1 9) (gl r459.1 10)) fun r504 =>
 bif (Nat.beq r504.1 0) then
 some r504.2.1
 else Option.bind (Zbg (V.agg [(V.int .i64 (gi r504.2.2.2.1 0)), (V.int .i64 (gi r504.2.2.2.1 1)), (V.int .i64 (gi r504.2.2.2.1 2)), (V.inl Zb r504.2.2.2.2.2.1), (V.int .i64 (gi r504.2.2.2.1 4)), (V.int .i64 (gi r504.2.2.2.1 5)), (V.int .i64 (gi r504.2.2.2.1 6)), (V.int .i64 (gi r504.2.2.2.1 7)), (V.inl Zi r504.2.2.2.2.2.2.1), (V.inl Ze r504.2.2.2.2.2.2.2.1), (V.inl Ze r504.2.2.2.2.2.2.2.2)]) r504.2.2.1 ((r504.2.2.2.2.2.1.length : Nat) : Int)) fun r505 =>
 bif (decide (r505 = (IntKind.i64.wrap (r504.2.2.1 - ((r504.2.2.2.2.1.length : Nat) : Int))))) then
 some true
 else some (decide (((r504.2.2.2.2.2.1.length : Nat) : Int) = 0))
end Go.Eng.R
