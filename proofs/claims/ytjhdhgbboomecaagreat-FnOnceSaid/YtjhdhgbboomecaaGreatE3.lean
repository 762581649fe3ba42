/- An own evaluator of the program's form, proved sound, and what it says of this law's functions: part 3. -/
import Derived.Test.YtjhdhgbboomecaaGreatE2
import Derived.ChangeSame
import Derived.ChangeStays
import Derived.Deep.RegionLaw
import Derived.Handed
import Derived.Laws.Externs
import Derived.Laws.IdiomCopy
import Derived.Laws.NewBlocks
import Derived.Lib.AppendZeros
import Derived.Lib.AppendZerosOnto
import Derived.Lib.Bytealg
import Derived.Lib.BytesEntry
import Derived.Lib.Overlaps
import Derived.ReadAgain
import Derived.Test.YtjhdhgbboomecaaGreatProg
set_option linter.unusedVariables false
namespace Go.Eng
open Go.ChangeShapes Go.WideShapes
inductive Wt (tab : Tab) : Ck → V → Prop where
  | int (k : IntKind) (n : Int) : (Lit.int k n).wf = true → Wt tab (.int k) (.int k n)
  | bool (b : Bool) : Wt tab .bool (.bool b)
  | str (s : ByteArray) : s.size ≤ 9223372036854775807 → Wt tab .str (.str (Z6 s))
  | sl (T : TypeId) (ty : Ty) (l : List V) : tab T = some ty → l.length ≤ 9223372036854775807 → (∀ i, i < l.length → ZbQ ty (l.getD i .dead)) →
      (∀ i j, i < l.length → j < ty.kinds.length → Wt tab (ty.kinds.getD j .other) ((l.getD i .dead).cell j)) → Wt tab (.sl T) (.inl T l)
def WtT (tab : Tab) (T : TypeId) (x : V) : Prop := ∃ ty, tab T = some ty ∧ ZbQ ty x ∧ ∀ j, j < ty.kinds.length → Wt tab (ty.kinds.getD j .other) (x.cell j)
theorem Wt.kindOk {tab : Tab} {k : Ck} {x : V} (h : Wt tab k x) : kindOk k x := by
  cases h <;> simp [Eng.kindOk]
def ZfA (tab : Tab) (T : TypeId) : List Ck := match tab T with
  | some ty => ty.kinds
  | none => []
def Zi6 (P : Program) (tab : Tab) (R : List TypeId) : Nat → List Field → Bool
  | _, [] => true
  | o, f :: r => R.contains f.type && (decide (f.offset = o) && (decide (P.cellsOf f.type = (ZfA tab f.type).length) && Zi6 P tab R (o + (ZfA tab f.type).length) r))
def Zk0 (P : Program) (tab : Tab) (R : List TypeId) (t : TypeId) : Bool :=
  match tab t with
  | none => false
  | some ty => decide (P.cellsOf t = ty.kinds.length) && match P.underlying t with
    | some (.int k) => !ty.agg && decide (ty.kinds = [.int k])
    | some .bool => !ty.agg && decide (ty.kinds = [.bool])
    | some .string => !ty.agg && decide (ty.kinds = [.str])
    | some (.slice e) => !ty.agg && (decide (ty.kinds = [.sl e]) && R.contains e)
    | some (.struct fs) => ty.agg && (Zi6 P tab R 0 fs.toList && decide (ty.kinds = fs.toList.flatMap fun f => ZfA tab f.type))
    | _ => false
def Zk1 (P : Program) (tab : Tab) (R : List TypeId) : Bool := R.all (Zk0 P tab R)
section
variable {H : Type} {enc : TypeId × Value → H} {P : Program} {tab : Tab} {w : World} {sp : Nat → Bool} {held : Bool}
def CellsIs (tab : Tab) (w : World) (ks : List Ck) (cs : List Value) (ys : List V) : Prop :=
  ys.length = ks.length ∧ cs.length = ks.length ∧ (∀ j, j < ks.length → Rp tab w (· < w.heap.size) (ys.getD j .dead) (cs.getD j undef)) ∧ ∀ j, j < ks.length → Wt tab (ks.getD j .other) (ys.getD j .dead)
theorem CellsIs.one {k : Ck} {v : Value} {y : V} (h1 : Rp tab w (· < w.heap.size) y v) (h2 : Wt tab k y) : CellsIs tab w [k] [v] [y] := by
  refine ⟨rfl, rfl, fun j hj => ?_, fun j hj => ?_⟩ <;>
  · have : j = 0 := by simpa using hj
    subst this
    assumption
theorem CellsIs.append {k1 k2 : List Ck} {c1 c2 : List Value} {y1 y2 : List V} (h1 : CellsIs tab w k1 c1 y1) (h2 : CellsIs tab w k2 c2 y2) : CellsIs tab w (k1 ++ k2) (c1 ++ c2) (y1 ++ y2) := by
  obtain ⟨a1, a2, a3, a4⟩ := h1
  obtain ⟨b1, b2, b3, b4⟩ := h2
  refine ⟨by simp [a1, b1], by simp [a2, b2], fun j hj => ?_, fun j hj => ?_⟩
  · simp only [List.length_append] at hj
    by_cases h : j < k1.length
    · have e1 : (y1 ++ y2).getD j .dead = y1.getD j .dead := by simp [List.getD, List.getElem?_append_left (show j < y1.length by omega)]
      have e2 : (c1 ++ c2).getD j undef = c1.getD j undef := by simp [List.getD, List.getElem?_append_left (show j < c1.length by omega)]
      rw [e1, e2]; exact a3 j h
    · have e1 : (y1 ++ y2).getD j .dead = y2.getD (j - k1.length) .dead := by simp [List.getD, List.getElem?_append_right (show y1.length ≤ j by omega), a1]
      have e2 : (c1 ++ c2).getD j undef = c2.getD (j - k1.length) undef := by simp [List.getD, List.getElem?_append_right (show c1.length ≤ j by omega), a2]
      rw [e1, e2]; exact b3 _ (by omega)
  · simp only [List.length_append] at hj
    by_cases h : j < k1.length
    · have e1 : (y1 ++ y2).getD j .dead = y1.getD j .dead := by simp [List.getD, List.getElem?_append_left (show j < y1.length by omega)]
      have e2 : (k1 ++ k2).getD j .other = k1.getD j .other := by simp [List.getD, List.getElem?_append_left (show j < k1.length by omega)]
      rw [e1, e2]; exact a4 j h
    · have e1 : (y1 ++ y2).getD j .dead = y2.getD (j - k1.length) .dead := by simp [List.getD, List.getElem?_append_right (show y1.length ≤ j by omega), a1]
      have e2 : (k1 ++ k2).getD j .other = k2.getD (j - k1.length) .other := by simp [List.getD, List.getElem?_append_right (show k1.length ≤ j by omega)]
      rw [e1, e2]; exact b4 _ (by omega)
theorem CellsIs.shape {T : TypeId} {ty : Ty} (hty : TyOk P tab T ty) {cs : List Value} {ys : List V} (h : CellsIs tab w ty.kinds cs ys) : ZbQ ty (Eng.mk ty.agg ys) ∧ (Eng.mk ty.agg ys).cells = ys :=
  ZhF hty h.1 fun j hj => (h.2.2.2 j hj).kindOk
theorem ZjG {R : List TypeId} {n : Nat} (ih : ∀ t ∈ R, ∀ cs x, DataW.trod enc P w 0 sp held n t cs = some x → ∃ ty ys, tab t = some ty ∧ CellsIs tab w ty.kinds cs ys) (cs : List Value) :
    ∀ (fs : List Field) (o : Nat) (xs : List (DataW H × List MemPlace)), Zi6 P tab R o fs = true →
      (fs.mapM fun f => DataW.trod enc P w 0 sp held n f.type ((cs.drop f.offset).take (P.cellsOf f.type))) = some xs →
      ∃ ys, CellsIs tab w (fs.flatMap fun f => ZfA tab f.type) ((cs.drop o).take ((fs.flatMap fun f => ZfA tab f.type).length)) ys
  | [], o, xs, _, _ => ⟨[], rfl, by simp, fun j hj => by simp at hj, fun j hj => by simp at hj⟩
  | f :: fs, o, xs, hB, hx => by
    simp only [Zi6, Bool.and_eq_true, decide_eq_true_eq, List.contains_iff_mem] at hB
    obtain ⟨h1, h2, h3, h4⟩ := hB
    rw [List.mapM_cons] at hx
    obtain ⟨x, hx1, hx2⟩ := Option.bind_eq_some_iff.1 hx
    obtain ⟨xr, hx3, hx4⟩ := Option.bind_eq_some_iff.1 hx2
    obtain ⟨ty, ys1, e1, c1⟩ := ih _ h1 _ _ hx1
    obtain ⟨ys2, c2⟩ := ZjG ih cs fs _ _ h4 hx3
    have ek : ZfA tab f.type = ty.kinds := by simp [ZfA, e1]
    refine ⟨ys1 ++ ys2, ?_⟩
    rw [h2, h3, ek] at c1
    rw [ek] at c2
    have := c1.append c2
    rw [List.flatMap_cons, ek]
    refine cast ?_ this
    congr 1
    rw [List.length_append]
    rw [← List.drop_drop, List.take_add]
theorem add_zero' (a : Addr) : a.add 0 = a := by simp [Addr.add]
theorem ZlT {a : Addr} (h : a.spot = none) (n : Nat) : a.add n = ⟨a.block, a.off + n, none⟩ := by
  cases a
  simp only at h
  subst h
  unfold Addr.add
  split
  · simp_all
  · rfl
theorem Zk2 (hT : Zx P tab) {R : List TypeId} (hR : Zk1 P tab R = true) : ∀ (n : Nat), ∀ t ∈ R, ∀ (cs : List Value) (x : DataW H × List MemPlace), DataW.trod enc P w 0 sp held n t cs = some x →
    ∃ ty ys, tab t = some ty ∧ CellsIs tab w ty.kinds cs ys
  | 0, t, ht, cs, x, h => by simp [DataW.trod] at h
  | n + 1, t, ht, cs, x, h => by
    have h1 := List.all_eq_true.1 hR t ht
    unfold Zk0 at h1
    split at h1
    · cases h1
    rename_i ty hty
    simp only [Bool.and_eq_true, decide_eq_true_eq] at h1
    obtain ⟨hcells, h1⟩ := h1
    refine ⟨ty, ?_⟩
    have ih := Zk2 hT hR n
    unfold DataW.trod at h
    split at h1
    · rename_i k hu
      simp only [Bool.and_eq_true, decide_eq_true_eq] at h1
      rw [hu] at h
      split at h <;> simp_all
      exact ⟨_, CellsIs.one (.int _ _) (.int _ _ (by rename_i hh; exact h.1.2))⟩
    · rename_i hu
      simp only [Bool.and_eq_true, decide_eq_true_eq] at h1
      rw [hu] at h
      split at h <;> simp_all
      exact ⟨_, CellsIs.one (.bool _) (.bool _)⟩
    · rename_i hu
      simp only [Bool.and_eq_true, decide_eq_true_eq] at h1
      rw [hu] at h
      split at h <;> simp_all
      exact ⟨_, CellsIs.one (.str _ _ rfl) (.str _ (by rename_i hh; have := h.1; unfold maxLen at this; omega))⟩
    · rename_i e hu
      simp only [Bool.and_eq_true, decide_eq_true_eq, List.contains_iff_mem, Bool.not_eq_true'] at h1
      obtain ⟨ha, hk, he⟩ := h1
      rw [hu] at h
      have e1 := List.all_eq_true.1 hR e he
      obtain ⟨ty2, hty2⟩ : ∃ ty2, tab e = some ty2 := by
        unfold Zk0 at e1
        split at e1
        · cases e1
        · rename_i ty2 h2; exact ⟨ty2, h2⟩
      have hsz : P.cellsOf e = ty2.kinds.length := by
        unfold Zk0 at e1
        rw [hty2] at e1
        simp only [Bool.and_eq_true, decide_eq_true_eq] at e1
        exact e1.1
      have hpos := (hT e ty2 hty2).pos
      rw [hk]
      split at h
      case h_7 =>
        exact ⟨_, hty, CellsIs.one (.inl e [] ty2 none 0 0 0 (fun _ _ => undef) hty2 (by simp) (by simp) (by simp) (by simp) (by simp)) (.sl e ty2 [] hty2 (by simp) (by simp) (by simp))⟩
      case h_8 e' a len cap heq =>
        cases heq
        simp only at h
        split at h
        case isFalse => cases h
        rename_i hc
        obtain ⟨-, hlc, hcm⟩ := hc
        obtain ⟨elems, hel, -⟩ := Option.bind_eq_some_iff.1 h
        have hlen : elems.length = len := by simpa using mapM_some_length hel
        have hone : ∀ i, i < len → ∃ csi ys, w.cells? 0 (a.add (i * P.cellsOf e)) (P.cellsOf e) = some csi ∧ CellsIs tab w ty2.kinds csi ys := by
          intro i hi
          have hg := mapM_some_get hel i i (by simp [hi])
          obtain ⟨y, hy⟩ : ∃ y, elems[i]? = some y := ⟨elems[i], by simp [hlen, hi]⟩
          rw [hy] at hg
          obtain ⟨csi, k1, k2⟩ := Option.bind_eq_some_iff.1 hg
          obtain ⟨ty3, ys, k3, k4⟩ := ih e he csi y k2
          obtain rfl : ty2 = ty3 := Option.some.inj (hty2.symm.trans k3)
          exact ⟨csi, ys, k1, k4⟩
        have hfull : ∀ i, ∃ csi ys, i < len → w.cells? 0 (a.add (i * P.cellsOf e)) (P.cellsOf e) = some csi ∧ CellsIs tab w ty2.kinds csi ys := fun i => by
          by_cases hi : i < len
          · obtain ⟨csi, ys, k⟩ := hone i hi; exact ⟨csi, ys, fun _ => k⟩
          · exact ⟨[], [], fun h => absurd h hi⟩
        have hfull' := Classical.axiomOfChoice hfull
        obtain ⟨C, hC⟩ := hfull'
        have hC' := Classical.axiomOfChoice hC
        obtain ⟨Y, hY⟩ := hC'
        let l : List V := (List.range len).map fun i => Eng.mk ty2.agg (Y i)
        have hll : l.length = len := by simp [l]
        have hget : ∀ i, i < len → l.getD i .dead = Eng.mk ty2.agg (Y i) := fun i hi => by simp [l, List.getD, hi]
        have hsh : ∀ i, i < l.length → ZbQ ty2 (l.getD i .dead) := fun i hi => by
          rw [hll] at hi
          rw [hget i hi]; exact ((hY i hi).2.shape (hT e ty2 hty2)).1
        have hcl : ∀ i j, i < len → (l.getD i .dead).cell j = (Y i).getD j .dead := fun i j hi => by
          rw [hget i hi, V.cell, ((hY i hi).2.shape (hT e ty2 hty2)).2]
        have hw0 : ∀ i j, i < len → j < ty2.kinds.length → w.cell? ((a.add (i * ty2.kinds.length)).add j) = some ((C i).getD j undef) := fun i j hi hj => by
          obtain ⟨k1, k2⟩ := hY i hi
          obtain ⟨-, q2, q3⟩ := World.cells?_some k1
          have := q3 j (by omega)
          have hj' : j < (C i).length := by omega
          rw [List.getElem?_eq_getElem hj'] at this
          have e1 : (C i).getD j undef = (C i)[j] := by simp [List.getD, hj']
          rw [e1, ← this, hsz]
        have hspot : 0 < len → a.spot = none := fun h0 => by
          have := hw0 0 0 h0 hpos
          rw [Nat.zero_mul, add_zero', add_zero'] at this
          unfold World.cell? at this
          split at this
          · split at this
            · cases this
            · rename_i hn; simpa using hn
          · cases this
        have hw : ∀ i j, i < len → j < ty2.kinds.length → w.cell? ⟨a.block, a.off + i * ty2.kinds.length + j, none⟩ = some ((C i).getD j undef) ∧ a.block < w.heap.size := fun i j hi hj => by
          have := hw0 i j hi hj
          rw [ZlT (hspot (by omega)), ZlT rfl] at this
          exact ⟨this, World.block_lt_of_cell? (w := w) (a := ⟨a.block, a.off + i * ty2.kinds.length + j, none⟩) (h := this)⟩
        refine ⟨[.inl e l], hty, CellsIs.one ?_ ?_⟩
        · have := Rp.inl (tab := tab) (w := w) (ok := (· < w.heap.size)) e l ty2 (some a) cap a.block a.off (fun i j => (C i).getD j undef) hty2 (by omega) (fun hne => ?_) hsh (fun i j hi hj => ?_) (fun i j hi hj => ?_)
          · rw [hll] at this; exact this
          · have h0 : 0 < len := by rw [← hll]; exact List.length_pos_iff.2 hne
            refine ⟨?_, (hw 0 0 h0 hpos).2⟩
            have := hspot h0
            cases a; simp_all
          · rw [hll] at hi
            exact (hw i j hi hj).1
          · rw [hll] at hi
            rw [hcl i j hi]
            exact (hY i hi).2.2.2.1 j hj
        · refine .sl e ty2 l hty2 (by unfold maxLen at hcm; omega) hsh fun i j hi hj => ?_
          rw [hll] at hi
          rw [hcl i j hi]
          exact (hY i hi).2.2.2.2 j hj
      all_goals first | (cases h; done) | simp_all
    · rename_i fs hu
      simp only [Bool.and_eq_true, decide_eq_true_eq] at h1
      obtain ⟨ha, hf, hk⟩ := h1
      rw [hu] at h
      split at h
      case h_9 fs' heq =>
        cases heq
        split at h
        case isFalse => cases h
        rename_i hcl
        obtain ⟨xs, hx, -⟩ := Option.map_eq_some_iff.1 h
        obtain ⟨ys, hys⟩ := ZjG ih _ fs.toList 0 xs hf hx
        rw [← hk, List.drop_zero, List.take_of_length_le (by omega)] at hys
        exact ⟨ys, hty, hys⟩
      all_goals first | (cases h; done) | simp_all
    · cases h1
theorem arg_read (hT : Zx P tab) {R : List TypeId} (hR : Zk1 P tab R = true) {t : TypeId} (ht : t ∈ R) {v : Value} {d : DataW H} {ps : List MemPlace} (hv : Value.okWide P w .any 0 t v) (h : DataW.Trod enc P w 0 sp held t v d ps) :
    ∃ x, WtT tab t x ∧ Rp tab w (· < w.heap.size) x v := by
  obtain ⟨n, hn⟩ := h
  obtain ⟨ty, ys, e1, e2⟩ := Zk2 hT hR n t ht _ _ hn
  have hty := hT t ty e1
  obtain ⟨s1, s2⟩ := e2.shape hty
  refine ⟨Eng.mk ty.agg ys, ⟨ty, e1, s1, fun j hj => by rw [V.cell, s2]; exact e2.2.2.2 j hj⟩, ?_⟩
  cases ha : ty.agg with
  | true =>
    obtain ⟨fs, hu, -⟩ := hty.agg ha
    unfold Value.okWide at hv
    rw [hu] at hv
    obtain ⟨cs, rfl, -⟩ := hv
    have hl := e2.2.1
    have : Rp tab w (· < w.heap.size) (.agg ys) (.agg cs.toList.toArray) := .agg ys cs.toList (by
      have : cs.toList.length = ty.kinds.length := hl
      rw [this, e2.1]) fun j hj => e2.2.2.1 j (by rw [← e2.1]; exact hj)
    simpa [Eng.mk] using this
  | false =>
    obtain ⟨h1, -, dd, hu, hns, hna⟩ := hty.flat ha
    have hone : v.cells = #[v] := by
      cases v with
      | agg cs =>
        exfalso
        unfold Value.okWide at hv
        rw [hu] at hv
        have hv : Cell.okWide P w .any 0 t (.agg cs) := by
          cases dd <;> first | exact hv | exact absurd rfl (hns _) | exact absurd rfl (hna _ _)
        unfold Cell.okWide at hv
        rw [hu] at hv
        cases dd <;> first | exact hv | (simp [Cell.ok, hu] at hv)
      | _ => rfl
    have h0 := e2.2.2.1 0 (by omega)
    have hyl := e2.1
    obtain ⟨y, rfl⟩ : ∃ y, ys = [y] := by
      match ys, hyl with
      | [y], _ => exact ⟨y, rfl⟩
      | [], h => simp at h; omega
      | _ :: _ :: _, h => simp at h; omega
    rw [hone] at h0
    simpa [Eng.mk] using h0
inductive WtAll (tab : Tab) : List TypeId → List V → Prop where
  | nil : WtAll tab [] []
  | cons {t : TypeId} {ts : List TypeId} {x : V} {xs : List V} : WtT tab t x → WtAll tab ts xs → WtAll tab (t :: ts) (x :: xs)
theorem ZiH (hT : Zx P tab) {R : List TypeId} (hR : Zk1 P tab R = true) : ∀ {ts : List TypeId} {vs : List Value} {ds : List (DataW H)} {ps : List MemPlace}, (∀ t ∈ ts, t ∈ R) →
    (∀ (j : Nat) t v, ts[j]? = some t → vs[j]? = some v → Value.okWide P w .any 0 t v) → DataW.TrodAll enc P w 0 sp held ts vs ds ps →
    ∃ xs, WtAll tab ts xs ∧ RqL (Rq2 tab w (· < w.heap.size)) xs vs [] []
  | [], vs, ds, ps, _, _, h => by
    obtain ⟨rfl, rfl, rfl⟩ := trodAll_nil h
    exact ⟨[], .nil, .nil⟩
  | t :: ts, vs, ds, ps, hR', hv, h => by
    obtain ⟨v, vs1, d, ds1, a, b, rfl, rfl, rfl, h1, h2⟩ := trodAll_cons h
    obtain ⟨x, hx, hr⟩ := arg_read hT hR (hR' t (by simp)) (hv 0 t v rfl rfl) h1
    obtain ⟨xs, hxs, hrs⟩ := ZiH hT hR (fun t ht => hR' t (by simp [ht])) (fun j t v h3 h4 => hv (j + 1) t v (by simpa using h3) (by simpa using h4)) h2
    exact ⟨x :: xs, .cons hx hxs, .cons (t := []) (n := []) (.one (.tree hr)) hrs⟩
end
section
variable {H : Type} {enc : TypeId × Value → H} {P : Program} {tab : Tab} {W W' : World}
theorem ZlU (hk : KeptBut [] W W') {a : Addr} (h : a.block < W.heap.size) : W'.frozen? a = W.frozen? a := by
  unfold World.frozen?
  rw [hk.block a.block h (by simp)]
theorem Zov (hk : KeptBut [] W W') {p : MemPlace} (h : p.block < W.heap.size) : W.sameAt W' p := by
  cases p with
  | cell b off =>
    show W'.cell? _ = W.cell? _
    unfold World.cell?
    rw [hk.block b h (by simp)]
  | map b => exact hk.block b h (by simp)
theorem Zow (hk : KeptBut [] W W') (may : MemPlace → Prop) : W.keptBut W' may := by
  refine ⟨hk.os, hk.output, fun i hi => ?_⟩
  rw [hk.block i hi (by simp)]
  split
  · rename_i c t fr c' t' fr' h1 h2
    rw [h1] at h2; cases h2
    exact ⟨rfl, rfl, rfl, fun _ _ => rfl⟩
  · rename_i es clock es' clock' h1 h2
    rw [h1] at h2; cases h2
    exact .inr ⟨rfl, rfl⟩
  · rfl
theorem Zf7 {T : TypeId → Prop} (K : Kids P T) (hz : ∀ {t e : TypeId}, T t → P.underlying t = some (.slice e) → 0 < P.cellsOf e) {sp' : Nat → Bool} :
    ∀ {ts : List TypeId} {vs : List Value} {ds : List (DataW H)} {ps : List MemPlace}, (∀ t ∈ ts, T t) → DataW.TrodAll enc P W 0 (fun _ => true) true ts vs ds ps → (∀ p ∈ ps, W.sameAt W' p) → (∀ p ∈ ps, sp' p.block = true) → DataW.TrodAll enc P W' 0 sp' true ts vs ds ps
  | [], [], [], _, _, h, _, _ => h
  | t :: _, _ :: _, _ :: _, _, hT, ⟨p, q, ⟨n, h1⟩, h2, e⟩, hs, hp => ⟨p, q, ⟨n, DataW.trod_stays K hz (fun h => by cases h) (hT t (by simp)) h1 (fun x hx => hs x (by rw [e]; exact List.mem_append_left _ hx)) (fun x hx => hp x (by rw [e]; exact List.mem_append_left _ hx))⟩,
      Zf7 K hz (fun t ht => hT t (by simp [ht])) h2 (fun x hx => hs x (by rw [e]; exact List.mem_append_right _ hx)) (fun x hx => hp x (by rw [e]; exact List.mem_append_right _ hx)), e⟩
theorem ZjH {f : Func} {s : ChangeSpec} {apart fresh handsOn again : Bool} {args : Array Value} {v : Value} {ds gs : List (DataW H)} {before pa pv : List MemPlace}
    (hW : DataW.Whole enc P f.params.toList s.vars apart W args.toList ds gs before)
    (hres : ∀ (b : Nat) (sp : Nat → Bool) (hd : Bool), DataW.TrodAll enc P W' b sp hd f.resultTypes.toList (v.resultList f.resultTypes.size) (s.fn H (ds ++ gs)).results [])
    (hargs : ∀ sp : Nat → Bool, (∀ p ∈ before, sp p.block = true) → DataW.TrodAll enc P W' 0 sp true f.params.toList args.toList (s.fn H (ds ++ gs)).args pa)
    (hvars : ∀ sp : Nat → Bool, (∀ p ∈ before, sp p.block = true) → DataW.TrodVars enc P W' sp s.vars (s.fn H (ds ++ gs)).vars pv)
    (hps : before = pa ++ pv) (hk : W.keptBut W' (· ∈ before)) (hfz : ∀ a : Addr, a.block < W.heap.size → W'.frozen? a = W.frozen? a)
    (hok : ∀ (j : Nat) (t : TypeId) (r : Value), f.resultTypes[j]? = some t → (v.resultList f.resultTypes.size)[j]? = some r → Value.okWide P W' .any 0 t r) :
    s.post enc P f apart fresh handsOn again W args v W' := by
  have hlt := fun p hp => hW.lt p hp
  have hold : ∀ p ∈ before, (fun b => decide (b < W.heap.size)) p.block = true := fun p hp => by simpa using hW.lt p hp
  refine ⟨ds, gs, before, [], pa, pv, hW, hres _ _ _, hargs _ hold, hvars _ hold, World.keptBut_mono (fun p hp => ⟨hp, ?_⟩) hk, fun _ => ?_⟩
  · rw [hps, List.mem_append] at hp
    exact Or.inr hp
  · obtain ⟨_, _, _, _, _, hz, hn⟩ := hW
    refine ⟨hok, _, _, ([] ++ pa) ++ pv, ⟨[] ++ pa, pv, trodAll_append (hargs _ (fun _ _ => rfl)) (hres _ _ _), hvars _ (fun _ _ => rfl), rfl, ?_, ?_⟩, ?_⟩
    · intro b off hp
      have hp' : MemPlace.cell b off ∈ before := by rw [hps]; simpa using hp
      rw [hfz ⟨b, off, none⟩ (hlt _ hp')]
      exact hz b off hp'
    · intro ha
      have := hn ha
      rw [hps] at this
      simpa using this
    · intro p hp _
      rw [hps]
      simpa using hp
theorem Zfg (hT : Zx P tab) {R : List TypeId} (hR : Zk1 P tab R = true) (hl : laidOutB P = true) (hm : mapsRowed P = true) (hz : ((List.range P.types.size).all fun t => match P.underlying t with | some (.slice e) => decide (0 < P.cellsOf e) | _ => true) = true)
    {f : FuncId} {fn : Func} {s : ChangeSpec} {apart fresh handsOn again : Bool} (hvars : s.vars = []) (hpar : (fn.params.toList.all fun t => R.contains t && decide (t < P.types.size)) = true)
    {tb : TypeId} (hres : fn.resultTypes = #[tb]) (htb : P.underlying tb = some .bool) (hsp : ∀ (ds : List (DataW H)), ds.length = fn.params.size → s.fn H ds = { results := [.lit (.bool true)], args := ds })
    (hS : ∀ xs, WtAll tab fn.params.toList xs → SumOk P tab f xs (.bool true, []))
    (args : Array Value) (ds gs : List (DataW H)) (before : List MemPlace)
    (hval : ∀ (j : Nat) t v, fn.params[j]? = some t → args[j]? = some v → Value.okWide P W .any 0 t v)
    (hW : DataW.Whole enc P fn.params.toList s.vars apart W args.toList ds gs before) :
    Calls P f args W fun e W' => ∃ v, e = .returned v ∧ s.post enc P fn apart fresh handsOn again W args v W' := by
  have hpar' : ∀ t ∈ fn.params.toList, t ∈ R ∧ t < P.types.size := fun t ht => by
    have := List.all_eq_true.1 hpar t ht
    simpa using this
  have hW' := hW
  obtain ⟨p, q, hA, hV, hb, hfz, hnd⟩ := hW'
  rw [hvars] at hV
  obtain ⟨rfl, rfl⟩ := trodVars_none hV
  have hA' : DataW.TrodAll enc P W 0 (fun _ => true) true fn.params.toList args.toList ds p := hA
  obtain ⟨xs, hxs, hrq⟩ := ZiH hT hR (fun t ht => (hpar' t ht).1) (fun j t v h1 h2 => hval j t v (by simpa using h1) (by simpa using h2)) hA'
  have hlen : ds.length = fn.params.size := by
    have : ∀ {ts : List TypeId} {vs : List Value} {ds : List (DataW H)} {ps : List MemPlace}, DataW.TrodAll enc P W 0 (fun _ => true) true ts vs ds ps → ds.length = ts.length := by
      intro ts
      induction ts with
      | nil => intro vs ds ps h; obtain ⟨rfl, rfl, rfl⟩ := trodAll_nil h; rfl
      | cons t ts ih =>
        intro vs ds ps h
        obtain ⟨v, vs1, d, ds1, a, b, rfl, rfl, rfl, h1, h2⟩ := trodAll_cons h
        simp [ih h2]
    simpa using this hA'
  have hcall := hS xs hxs W (· < W.heap.size) args.toList [] [] hrq (by simp) (fun g hg => ⟨hg, by simp⟩) (by simp)
  refine Calls.mono hcall ?_
  rintro e W' ⟨val, rfl, rt, rn, ot, on, r1, r2, h1, h2, h3, h4, hk⟩
  have hval' : val = .bool true := by
    cases r1 with | one r1 => cases r1 with | one r1 => cases r1 with | tree r1 => cases r1; rfl
  subst hval'
  refine ⟨_, rfl, ?_⟩
  have hlt : ∀ x ∈ before, x.block < W.heap.size := fun x hx => hW.lt x hx
  refine ZjH (pa := before) (pv := []) hW (fun b sp hd => ?_) (fun sp hsp' => ?_) (fun sp _ => ?_) (by simp) (Zow hk _) (fun a ha => ZlU hk ha) (fun j t r hj hr => ?_)
  · rw [List.append_nil, hsp ds hlen, hres]
    refine ⟨[], [], ⟨1, ?_⟩, rfl, rfl⟩
    show DataW.trod enc P W' b sp hd 1 tb [.bool true] = _
    unfold DataW.trod
    rw [htb]
  · rw [List.append_nil, hsp ds hlen]
    rw [hb, List.append_nil] at hsp' hlt ⊢
    exact Zf7 (kids_rows hl hm) (fun {t e} h1 h2 => slices_full_of P hz t e h1 h2) (fun t ht => (hpar' t ht).2) hA' (fun x hx => Zov hk (hlt x hx)) hsp'
  · rw [List.append_nil, hsp ds hlen, hvars]
    exact rfl
  · rw [hres] at hj hr
    have hj0 : j = 0 ∧ t = tb := by
      cases j with
      | zero => simpa using hj.symm
      | succ j => simp at hj
    obtain ⟨rfl, rfl⟩ := hj0
    have : r = .bool true := by
      simpa [Value.resultList] using hr.symm
    subst this
    simp [Value.okWide, htb, Cell.okWide, Cell.ok]
end
end Go.Eng
namespace Go.Eng
section
variable {tab : Tab} {T : TypeId} {x : V}
theorem WtT.cell (h : WtT tab T x) (j : Nat) {k : Ck} (hk : ((tab T).bind fun ty => ty.kinds[j]?) = some k) : Wt tab k (x.cell j) := by
  obtain ⟨ty, h1, h2, h3⟩ := h
  rw [h1, Option.bind_some] at hk
  have hj := (List.getElem?_eq_some_iff.1 hk).1
  have := h3 j hj
  rwa [show ty.kinds.getD j .other = k from by simp [List.getD, hk]] at this
theorem WtT.eta (h : WtT tab T x) {ty : Ty} (ht : tab T = some ty) : x = Eng.mk ty.agg (Zar ty.kinds x 0) := by
  obtain ⟨ty', h1, h2, h3⟩ := h
  obtain rfl := Option.some.inj (ht.symm.trans h1)
  rw [ZfI h2, mk_cells h2]
theorem wt_u8 {v : V} (h : Wt tab (.int .u8) v) : 0 ≤ v.I ∧ v.I ≤ 255 := by
  cases h with | int k n h =>
  simp [Lit.wf, IntKind.min, IntKind.max, IntKind.signed, IntKind.bits] at h
  exact h
theorem Zk3 {v : V} {e : TypeId} (h : Wt tab (.sl e) v) {w : V → Prop} (hw : ∀ y, WtT tab e y → w y) : LW w v.L := by
  cases h with | sl _ ty l h1 h2 h3 h4 =>
  refine ⟨h2, fun y hy => hw y ?_⟩
  have hy : y ∈ l := hy
  obtain ⟨i, hi, rfl⟩ := List.getElem_of_mem hy
  have e1 : l.getD i .dead = l[i] := by simp [List.getD, hi]
  exact ⟨ty, h1, by rw [← e1]; exact h3 i hi, fun j hj => by rw [← e1]; exact h4 i j hi hj⟩
theorem WtAll.one {t : TypeId} {xs : List V} (h : WtAll tab [t] xs) : ∃ a, xs = [a] ∧ WtT tab t a := by
  cases h with | cons h1 h2 => cases h2; exact ⟨_, rfl, h1⟩
end
end Go.Eng
namespace Go.Eng
variable {P : Program}
theorem ZcP (w : World) (dT sT ty elem : TypeId) (sz : Nat) (g o dLen dCap : Nat) (a : Addr) (sLen sCap : Nat) (cur : Array Value) (t : TypeId) (cs : List Value)
    (hu : P.underlying dT = some (.slice elem)) (hs : (P.info? elem).map (·.size) = some sz)
    (hg : w.heap[g]? = some (.cells cur t (0, 0))) (hn : cs.length = Nat.min sLen dLen * sz)
    (hsrc : ∀ j v, cs[j]? = some v → w.cell? (a.add j) = some v) (hfit : o + cs.length ≤ cur.size) (h1 : ∀ v ∈ cs, v.oneCell' = true) :
    (Builtin.copy_ #[dT, sT] ty #[.slice (some ⟨g, o, none⟩) dLen dCap, .slice (some a) sLen sCap]).run P w =
      .ok (goInt (Nat.min sLen dLen)) (w.setRow g (cur.toList.take o ++ cs ++ cur.toList.drop (o + cs.length)).toArray) := by
  have hl := run_loadCells_list (P := P) w a cs hsrc
  have hst := run_storeCells_at P g o t cs 0 cur w hg (by simpa using hfit) h1
  cases hq : P.info? elem with
  | none => simp [hq] at hs
  | some i =>
    have hi : i.size = sz := by simpa [hq] using hs
    simp [Builtin.copy_, run_underlying hu, Builtin.lenOf, Builtin.firstCells, sizeOf, typeInfo, hq, hi, ← hn, hl, hst]
theorem ZfN (w : World) (t e ty : TypeId) (z : Value) (sz : Nat) (hu : P.underlying t = some (.slice e)) (hv : ∀ w, (zeroValue e).run P w = .ok z w) (hz : z.cells.size = sz) (h1 : ∀ v ∈ z.cells, v.oneCell' = true) (hsz : 0 < sz)
    (g o n : Nat) (hn : 0 < n) (cur : Array Value) (T : TypeId) (hg : w.heap[g]? = some (.cells cur T (0, 0))) (hfit : o + n * sz ≤ cur.size) :
    ∃ tl : List Value, tl.length = n * sz ∧ ∀ c, (Builtin.clear_ #[t] ty #[.slice (some ⟨g, o, none⟩) n c]).run P w = .ok (.tuple #[]) (w.setRow g (cur.toList.take o ++ tl ++ cur.toList.drop (o + tl.length)).toArray) := by
  refine ⟨(Builtin.zeroCells z.cells n).toList, by rw [Array.length_toList, size_zeroCells, hz], fun c => ?_⟩
  have hl : (Builtin.zeroCells z.cells n).toList.length = n * sz := by rw [Array.length_toList, size_zeroCells, hz]
  have hst := run_storeCells_at P g o T (Builtin.zeroCells z.cells n).toList 0 cur w hg (by rw [hl]; simpa using hfit) (fun v hv' => by
    simp only [Builtin.zeroCells, Array.toList_map, List.mem_map] at hv'
    obtain ⟨k, hk, rfl⟩ := hv'
    have hlt : k % z.cells.size < z.cells.size := Nat.mod_lt _ (by omega)
    rw [getElem!_pos z.cells _ hlt]
    exact h1 _ (Array.getElem_mem hlt))
  simp only [Nat.add_zero] at hst
  obtain ⟨m, rfl⟩ : ∃ m, n = m + 1 := ⟨n - 1, by omega⟩
  simp [Builtin.clear_, run_underlying hu, hv, hst]
section
variable {w : World} {ops : Array Oper} {rest : List Oper} {o : Oper} {a : Act} {Q : Exit → Act → World → Prop}
theorem ZeC (hgd : o.guard = none) (d s : Operand) (t t' : TypeId)
    (ho : o.op = .call { callee := .builtin .copy, args := #[d, s], argTypes := #[t, t'] }) (v u : Value) (hd : a.eval d = v) (hs : a.eval s = u) {v' : Value} {w' : World}
    (hr : (Builtin.copy_ #[t, t'] o.type #[v, u]).run P w = .ok v' w') (h : wpList P ops Q rest (a.put o.dst v') w') : wpList P ops Q (o :: rest) a w :=
  wpList_plain hgd fun _ hK => by
    unfold Oper.wp execOp
    simp only [ho, resolve, invoke, builtin, Sem.run_bind, Sem.run_pure, Result.andThen_ok, List.map_toArray, List.map_cons, List.map_nil, hd, hs, hr]
    exact hK _ _ h
theorem ZaA (hgd : o.guard = none) (d : Operand) (t : TypeId)
    (ho : o.op = .call { callee := .builtin .clear, args := #[d], argTypes := #[t] }) (v : Value) (hd : a.eval d = v) {v' : Value} {w' : World}
    (hr : (Builtin.clear_ #[t] o.type #[v]).run P w = .ok v' w') (h : wpList P ops Q rest (a.put o.dst v') w') : wpList P ops Q (o :: rest) a w :=
  wpList_plain hgd fun _ hK => by
    unfold Oper.wp execOp
    simp only [ho, resolve, invoke, builtin, Sem.run_bind, Sem.run_pure, Result.andThen_ok, List.map_toArray, List.map_cons, List.map_nil, hd, hr]
    exact hK _ _ h
theorem ZfO {K : Act → World → Prop} {E : Prop}
    (hg : o.guard = none) (d x : Operand) (dT sT : TypeId) (hop : o.op = Op.call { callee := Callee.builtin Builtin.copy, args := #[d, x], argTypes := #[dT, sT] })
    (v u : Value) (hd : a.eval d = v) (hx : a.eval x = u) {v' : Value} {w' : World} (hr : (Builtin.copy_ #[dT, sT] o.type #[v, u]).run P w = .ok v' w') (hK : K (a.put o.dst v') w') :
    if Region.wanted o (yielded ops a.tmps) = true then Oper.wp P o a w K Q else E := by
  have hw : Region.wanted o (yielded ops a.tmps) = true := by simp [Region.wanted, hg]
  rw [if_pos hw]
  unfold Oper.wp
  simp [execOp, hop, resolve, invoke, builtin, hd, hx, hr, Result.andThen]
  exact hK
theorem ZeD {K : Act → World → Prop} {E : Prop}
    (hg : o.guard = none) (d x : Operand) (dT sT : TypeId) (hop : o.op = Op.call { callee := Callee.builtin Builtin.append, args := #[d, x], argTypes := #[dT, sT] })
    (v u : Value) (hd : a.eval d = v) (hx : a.eval x = u) {v' : Value} {w' : World} (hr : (Builtin.append_ #[dT, sT] o.type #[v, u]).run P w = .ok v' w') (hK : K (a.put o.dst v') w') :
    if Region.wanted o (yielded ops a.tmps) = true then Oper.wp P o a w K Q else E := by
  have hw : Region.wanted o (yielded ops a.tmps) = true := by simp [Region.wanted, hg]
  rw [if_pos hw]
  unfold Oper.wp
  simp [execOp, hop, resolve, invoke, builtin, hd, hx, hr, Result.andThen]
  exact hK
end
def ZdQ (l : List Value) : Prop := ∀ v ∈ l, v.oneCell' = true
def ZhU (P : Program) (f : FuncId) (T : TypeId) (sz : Nat) : Prop :=
  ∀ (g n cap i j : Nat) (cur : Array Value) (w : World), w.heap[g]? = some (.cells cur T (0, 0)) → cur.size = cap * sz → n ≤ cap → cap ≤ maxLen → ZdQ (cur.toList.take (n * sz)) → i < j → j ≤ n →
    Calls P f #[.slice (some ⟨g, 0, none⟩) n cap, .int .i64 i, .int .i64 j] w fun e w' => e = .returned (.slice (some ⟨g, 0, none⟩) (n - (j - i)) cap) ∧
      ∃ cur' : Array Value, w'.heap[g]? = some (.cells cur' T (0, 0)) ∧ cur'.size = cap * sz ∧ cur'.toList.take ((n - (j - i)) * sz) = (cur.toList.take (n * sz)).take (i * sz) ++ (cur.toList.take (n * sz)).drop (j * sz) ∧ KeptBut [g] w w'
def ZfB (P : Program) (f : FuncId) : Prop :=
  ∀ (a : Option Addr) (n cap i : Nat) (w : World), i ≤ n → n ≤ cap → cap ≤ maxLen → Calls P f #[.slice a n cap, .int .i64 i, .int .i64 i] w fun e w' => e = .returned (.slice a n cap) ∧ KeptBut [] w w'
end Go.Eng
namespace Go.Eng
variable {P : Program}
theorem Za8 {w : World} {g o m : Nat} {cur : Array Value} {T : TypeId} (hg : w.heap[g]? = some (.cells cur T (0, 0))) (h : o + m ≤ cur.size) :
    ∀ j v, ((cur.toList.drop o).take m)[j]? = some v → w.cell? ((⟨g, o, none⟩ : Addr).add j) = some v := by
  intro j v hv
  rw [List.getElem?_take] at hv
  split at hv
  · rename_i hj
    rw [List.getElem?_drop] at hv
    rw [Addr.add_none]
    have hlt := (List.getElem?_eq_some_iff.1 hv).1
    have : o + j < cur.size := by simpa using hlt
    have e := (List.getElem?_eq_some_iff.1 hv).2
    simp [World.cell?, hg, this]
    simpa using e
  · cases hv
def ZhV (P : Program) (f : FuncId) (T : TypeId) (sz bytes : Nat) : Prop :=
  ∀ (w : World) (v v2 : Value) (n i : Nat) (xs ys : List Value), RowIs w T sz n v xs → RowIs w T sz 1 v2 ys → (∀ g ∈ Zp v, g ∉ Zp v2) → ZdQ xs → ZdQ ys → i ≤ n → (n + 1) * bytes ≤ 140737488355328 →
    n + 1 ≤ 9223372036854775807 → Calls P f #[v, .int .i64 i, v2] w fun e w' => ∃ v', e = .returned v' ∧ RowIs w' T sz (n + 1) v' (xs.take (i * sz) ++ ys ++ xs.drop (i * sz)) ∧ KeptBut (Zp v) w w' ∧ ∀ g ∈ Zp v', g ∈ Zp v ∨ w.heap.size ≤ g
end Go.Eng
namespace Go.Eng
theorem Zm7 {α : Type} {cur y tl c1 c2 : List α} {a s : Nat} (ha : a + s ≤ cur.length) (hy : y.length = s) (h1 : c1 = cur.take (a + s) ++ tl ++ cur.drop (a + s + tl.length)) (h2 : c2 = c1.take a ++ y ++ c1.drop (a + s)) :
    c2.take (a + s + tl.length) = cur.take a ++ y ++ tl := by
  have e1 : c1.take a = cur.take a := by
    rw [h1, List.append_assoc, List.take_append_of_le_length (by simp; omega), List.take_take, Nat.min_eq_left (by omega)]
  have e2 : c1.drop (a + s) = tl ++ cur.drop (a + s + tl.length) := by
    rw [h1, List.append_assoc]; exact List.drop_left' (by simp; omega)
  rw [h2, e1, e2, ← List.append_assoc]
  exact List.take_left' (by simp; omega)
theorem Zk4 {α : Type} (l : List α) (a b : Nat) : (l.drop a).take (b - a) = (l.take b).drop a := by rw [List.drop_take]
end Go.Eng
namespace Go.Eng
theorem KeptBut.fresh {w w' : World} {F : List Nat} (h : KeptBut F w w') (hF : ∀ g ∈ F, w.heap.size ≤ g) : KeptBut [] w w' :=
  ⟨h.os, h.tape, h.output, h.size, fun g hg _ => h.block g hg fun hm => by have := hF g hm; omega⟩
theorem ZlV {α : Type} {row y tl c2 c3 : List α} {a s : Nat} (ha : a + s + tl.length ≤ row.length) (hy : y.length = s) (h2 : c2 = row.take a ++ y ++ row.drop (a + s)) (h3 : c3 = c2.take (a + s) ++ tl ++ c2.drop (a + s + tl.length)) :
    c3.take (a + s + tl.length) = row.take a ++ y ++ tl := by
  have e1 : c2.take (a + s) = row.take a ++ y := by rw [h2]; exact List.take_left' (by simp; omega)
  rw [h3, e1]
  exact List.take_left' (by simp; omega)
end Go.Eng
namespace Go.Eng
variable {P : Program}
def InsRoom (P : Program) (f : FuncId) (T : TypeId) (sz : Nat) : Prop :=
  ∀ (w : World) (g n cap i h caph : Nat) (cur curh : Array Value), w.heap[g]? = some (.cells cur T (0, 0)) → cur.size = cap * sz → cap ≤ maxLen → ZdQ (cur.toList.take (n * sz)) →
    w.heap[h]? = some (.cells curh T (0, 0)) → curh.size = caph * sz → 1 ≤ caph → h ≠ g → ZdQ (curh.toList.take sz) → i < n → n + 1 ≤ cap →
    Calls P f #[.slice (some ⟨g, 0, none⟩) n cap, .int .i64 i, .slice (some ⟨h, 0, none⟩) 1 caph] w fun e w' => e = .returned (.slice (some ⟨g, 0, none⟩) (n + 1) cap) ∧
      ∃ cur' : Array Value, w'.heap[g]? = some (.cells cur' T (0, 0)) ∧ cur'.size = cap * sz ∧ cur'.toList.take ((n + 1) * sz) = (cur.toList.take (n * sz)).take (i * sz) ++ curh.toList.take sz ++ (cur.toList.take (n * sz)).drop (i * sz) ∧ KeptBut [g] w w'
def InsGrow (P : Program) (f : FuncId) (T : TypeId) (sz bytes : Nat) : Prop :=
  ∀ (w : World) (g n cap i h caph : Nat) (cur curh : Array Value), w.heap[g]? = some (.cells cur T (0, 0)) → cur.size = cap * sz → cap ≤ maxLen → ZdQ (cur.toList.take (n * sz)) →
    w.heap[h]? = some (.cells curh T (0, 0)) → curh.size = caph * sz → 1 ≤ caph → ZdQ (curh.toList.take sz) → i < n → n ≤ cap → cap < n + 1 → (n + 1) * bytes ≤ 140737488355328 →
    Calls P f #[.slice (some ⟨g, 0, none⟩) n cap, .int .i64 i, .slice (some ⟨h, 0, none⟩) 1 caph] w fun e w' => ∃ cap', e = .returned (.slice (some ⟨w.heap.size, 0, none⟩) (n + 1) cap') ∧ n + 1 ≤ cap' ∧ cap' ≤ maxLen ∧
      ∃ cur' : Array Value, w'.heap[w.heap.size]? = some (.cells cur' T (0, 0)) ∧ cur'.size = cap' * sz ∧ cur'.toList.take ((n + 1) * sz) = (cur.toList.take (n * sz)).take (i * sz) ++ curh.toList.take sz ++ (cur.toList.take (n * sz)).drop (i * sz) ∧ KeptBut [] w w'
def Zm8 (P : Program) (f : FuncId) (T : TypeId) (sz bytes : Nat) : Prop :=
  ∀ (w : World) (v v2 : Value) (n : Nat) (xs ys : List Value), RowIs w T sz n v xs → RowIs w T sz 1 v2 ys → ZdQ ys → (n + 1) * bytes ≤ 140737488355328 → n + 1 ≤ 9223372036854775807 →
    Calls P f #[v, .int .i64 n, v2] w fun e w' => ∃ v', e = .returned v' ∧ RowIs w' T sz (n + 1) v' (xs ++ ys) ∧ KeptBut (Zp v) w w' ∧ ∀ g ∈ Zp v', g ∈ Zp v ∨ g = w.heap.size
theorem ZhW {w : World} {T : TypeId} {sz n : Nat} {g cap : Nat} {cur : Array Value} {xs : List Value} (hc : 0 < cap) (hg : w.heap[g]? = some (.cells cur T (0, 0))) (hn : n ≤ cap) (hm : cap ≤ maxLen) (hs : cur.size = cap * sz) (hx : cur.toList.take (n * sz) = xs) :
    RowIs w T sz n (.slice (some ⟨g, 0, none⟩) n cap) xs :=
  ⟨by rw [← hx, List.length_take, Array.length_toList, hs]; exact Nat.min_eq_left (Nat.mul_le_mul_right _ hn), .inr ⟨g, cap, cur, rfl, hc, .of hg, hn, hm, hs, hx⟩⟩
theorem ZcQ (g n cap : Nat) (hc : 0 < cap) : Zp (.slice (some ⟨g, 0, none⟩) n cap) = [g] := by
  obtain ⟨c, rfl⟩ : ∃ c, cap = c + 1 := ⟨cap - 1, by omega⟩
  rfl
theorem ins_ok {f : FuncId} {T : TypeId} {sz bytes : Nat} (hR : InsRoom P f T sz) (hG : InsGrow P f T sz bytes) (hE : Zm8 P f T sz bytes) (hne : Nat.beq T ZbG = false := by rfl) : ZhV P f T sz bytes := by
  have hmk : T ≠ ZbG := fun e => by rw [e, Nat.beq_refl] at hne; cases hne
  intro w v v2 n i xs ys hr hr2 hd h1 h1h hi hbig h63
  by_cases hin : i = n
  · subst hin
    refine (hE w v v2 i xs ys hr hr2 h1h hbig h63).mono ?_
    rintro e w' ⟨v', rfl, k1, k2, k3⟩
    refine ⟨v', rfl, ?_, k2, fun g hg => ?_⟩
    · rw [List.take_of_length_le (by rw [hr.1]; exact Nat.le_refl _), List.drop_of_length_le (by rw [hr.1]; exact Nat.le_refl _), List.append_nil]; exact k1
    · rcases k3 g hg with h | h
      · exact .inl h
      · exact .inr (by omega)
  · have hlt : i < n := by omega
    rcases hr.2 with ⟨a, rfl, h0⟩ | ⟨g, cap, cur, rfl, hc, hg, hn, hm, hs, hx⟩
    · omega
    rcases hr2.2 with ⟨a, rfl, h0⟩ | ⟨h, caph, curh, rfl, hch, hh, hn2, hm2, hs2, hx2⟩
    · omega
    have hne : h ≠ g := fun e => hd g (by rw [ZcQ _ _ _ hc]; simp) (by rw [ZcQ _ _ _ hch, e]; simp)
    rw [Nat.one_mul] at hx2
    subst hx; subst hx2
    have hg := hg.zero hmk
    have hh := hh.zero hmk
    by_cases hroom : n + 1 ≤ cap
    · refine (hR w g n cap i h caph cur curh hg hs hm h1 hh hs2 hn2 hne h1h hlt hroom).mono ?_
      rintro e w' ⟨rfl, cur', k1, k2, k3, k4⟩
      refine ⟨_, rfl, ZhW hc k1 hroom hm k2 k3, by rw [ZcQ _ _ _ hc]; exact k4, fun g' hg' => .inl ?_⟩
      rw [ZcQ _ _ _ hc] at hg' ⊢; exact hg'
    · refine (hG w g n cap i h caph cur curh hg hs hm h1 hh hs2 hn2 h1h hlt hn (by omega) hbig).mono ?_
      rintro e w' ⟨cap', rfl, k0, k0', cur', k1, k2, k3, k4⟩
      refine ⟨_, rfl, ZhW (by omega) k1 k0 k0' k2 k3, k4.mono (by simp), fun g' hg' => .inr ?_⟩
      rw [ZcQ _ _ _ (by omega)] at hg'; simp at hg'; omega
section
variable {tab : Tab}
structure Els (tab : Tab) (w : World) (ok : Nat → Prop) (ty : Ty) (own : Bool) (l : List V) (xs : List Value) (F : Nat → Nat → List Nat) : Prop where
  len : xs.length = l.length * ty.kinds.length
  shape : ∀ i, i < l.length → ZbQ ty (l.getD i .dead)
  yes : own = true → ∀ i j, i < l.length → j < ty.kinds.length → Ro tab w ((l.getD i .dead).cell j) (xs.getD (i * ty.kinds.length + j) undef) (F i j)
  no : own = false → (∀ i j, F i j = []) ∧ ∀ i j, i < l.length → j < ty.kinds.length → Rp tab w ok ((l.getD i .dead).cell j) (xs.getD (i * ty.kinds.length + j) undef)
theorem RowT.els {w : World} {ok : Nat → Prop} {T : TypeId} {own : Bool} {l : List V} {v : Value} {nest : List Nat} (h : RowT tab w ok T own l v nest) {ty : Ty} (ht : tab T = some ty) :
    ∃ xs F, RowIs w T ty.kinds.length l.length v xs ∧ Els tab w ok ty own l xs F ∧ nest = Zz l.length ty.kinds.length F := by
  obtain ⟨ty', xs, ht', hr, hs, he⟩ := h
  obtain rfl := Option.some.inj (ht.symm.trans ht')
  rcases he with ⟨ho, F, hn, he⟩ | ⟨ho, hn, he⟩
  · exact ⟨xs, F, hr, ⟨hr.1, hs, fun _ => he, fun h => by rw [ho] at h; cases h⟩, hn⟩
  · refine ⟨xs, fun _ _ => [], hr, ⟨hr.1, hs, fun h => by rw [ho] at h; (cases h), fun _ => ⟨fun _ _ => rfl, he⟩⟩, ?_⟩
    rw [hn]; simp [Zz]
theorem Els.row {w : World} {ok : Nat → Prop} {T : TypeId} {own : Bool} {l : List V} {v : Value} {ty : Ty} (ht : tab T = some ty) {xs : List Value} {F : Nat → Nat → List Nat} (hr : RowIs w T ty.kinds.length l.length v xs) (h : Els tab w ok ty own l xs F) :
    RowT tab w ok T own l v (Zz l.length ty.kinds.length F) := by
  refine ⟨ty, xs, ht, hr, h.shape, ?_⟩
  cases ho : own with
  | true => exact .inl ⟨rfl, F, rfl, h.yes ho⟩
  | false =>
    obtain ⟨h1, h2⟩ := h.no ho
    refine .inr ⟨rfl, ?_, h2⟩
    simp [Zz, h1]
theorem Els.keep {w w' : World} {ok ok' : Nat → Prop} {own : Bool} {l : List V} {ty : Ty} {xs : List Value} {F : Nat → Nat → List Nat} (h : Els tab w ok ty own l xs F) (hok : ∀ g, ok g → ok' g) (hw : ∀ g, ok g → w'.heap[g]? = w.heap[g]?)
    (hF : ∀ i j, i < l.length → j < ty.kinds.length → ∀ g ∈ F i j, w'.heap[g]? = w.heap[g]?) : Els tab w' ok' ty own l xs F :=
  ⟨h.len, h.shape, fun ho i j hi hj => (h.yes ho i j hi hj).keep (hF i j hi hj), fun ho => ⟨(h.no ho).1, fun i j hi hj => ((h.no ho).2 i j hi hj).keep hok hw⟩⟩
theorem Els.one {w : World} {ok : Nat → Prop} {own : Bool} {l : List V} {ty : Ty} {xs : List Value} {F : Nat → Nat → List Nat} (h : Els tab w ok ty own l xs F) : ZdQ xs := by
  intro v hv
  obtain ⟨k, hk, rfl⟩ := List.getElem_of_mem hv
  rw [h.len] at hk
  obtain ⟨h1, h2, h3⟩ := ZhC hk
  have e : xs.getD (k / ty.kinds.length * ty.kinds.length + k % ty.kinds.length) undef = xs[k] := by rw [h3]; simp [List.getD, h.len, hk]
  rw [← e]
  cases ho : own with
  | true => exact (h.yes ho _ _ h1 h2).oneCell
  | false => exact ((h.no ho).2 _ _ h1 h2).oneCell _ ((h.shape _ h1).2.2.2 _ h2)
theorem Els.pick {w : World} {ok : Nat → Prop} {own : Bool} {l : List V} {ty : Ty} {xs : List Value} {F : Nat → Nat → List Nat} (h : Els tab w ok ty own l xs F) (φ : Nat → Nat) {l' : List V} {xs' : List Value}
    (hlen : xs'.length = l'.length * ty.kinds.length) (hφ : ∀ k, k < l'.length → φ k < l.length) (hl : ∀ k, k < l'.length → l'.getD k .dead = l.getD (φ k) .dead)
    (hx : ∀ k c, k < l'.length → c < ty.kinds.length → xs'.getD (k * ty.kinds.length + c) undef = xs.getD (φ k * ty.kinds.length + c) undef) : Els tab w ok ty own l' xs' (fun k c => F (φ k) c) :=
  ⟨hlen, fun k hk => by rw [hl k hk]; exact h.shape _ (hφ k hk), fun ho k c hk hc => by rw [hl k hk, hx k c hk hc]; exact h.yes ho _ _ (hφ k hk) hc,
   fun ho => ⟨fun k c => (h.no ho).1 _ _, fun k c hk hc => by rw [hl k hk, hx k c hk hc]; exact (h.no ho).2 _ _ (hφ k hk) hc⟩⟩
theorem Els.append {w : World} {ok : Nat → Prop} {own : Bool} {l l' : List V} {ty : Ty} {xs xs' : List Value} {F F' : Nat → Nat → List Nat} (h : Els tab w ok ty own l xs F) (h' : Els tab w ok ty own l' xs' F') :
    Els tab w ok ty own (l ++ l') (xs ++ xs') (fun k c => if k < l.length then F k c else F' (k - l.length) c) := by
  have hg1 : ∀ k, k < l.length → (l ++ l').getD k .dead = l.getD k .dead := fun k hk => by simp only [List.getD, List.getElem?_append_left hk]
  have hg2 : ∀ k, ¬ k < l.length → (l ++ l').getD k .dead = l'.getD (k - l.length) .dead := fun k hk => by simp [List.getD, List.getElem?_append_right (Nat.le_of_not_lt hk)]
  have hx1 : ∀ k c, k < l.length → c < ty.kinds.length → (xs ++ xs').getD (k * ty.kinds.length + c) undef = xs.getD (k * ty.kinds.length + c) undef := fun k c hk hc => by
    have : k * ty.kinds.length + c < xs.length := by rw [h.len]; exact ZbH hk hc
    simp only [List.getD, List.getElem?_append_left this]
  have hx2 : ∀ k c, ¬ k < l.length → c < ty.kinds.length → (xs ++ xs').getD (k * ty.kinds.length + c) undef = xs'.getD ((k - l.length) * ty.kinds.length + c) undef := fun k c hk hc => by
    have e : l.length * ty.kinds.length ≤ k * ty.kinds.length := Nat.mul_le_mul_right _ (Nat.le_of_not_lt hk)
    have : xs.length ≤ k * ty.kinds.length + c := by rw [h.len]; omega
    simp only [List.getD, List.getElem?_append_right this]
    rw [h.len, Nat.sub_mul, show k * ty.kinds.length + c - l.length * ty.kinds.length = k * ty.kinds.length - l.length * ty.kinds.length + c from by omega]
  refine ⟨by simp [h.len, h'.len, Nat.add_mul], fun k hk => ?_, fun ho k c hk hc => ?_, fun ho => ⟨fun k c => ?_, fun k c hk hc => ?_⟩⟩
  · by_cases hk' : k < l.length
    · rw [hg1 k hk']; exact h.shape k hk'
    · rw [hg2 k hk']; exact h'.shape _ (by simp at hk; omega)
  · by_cases hk' : k < l.length
    · rw [hg1 k hk', hx1 k c hk' hc, if_pos hk']; exact h.yes ho k c hk' hc
    · rw [hg2 k hk', hx2 k c hk' hc, if_neg hk']; exact h'.yes ho _ c (by simp at hk; omega) hc
  · split
    · exact (h.no ho).1 _ _
    · exact (h'.no ho).1 _ _
  · by_cases hk' : k < l.length
    · rw [hg1 k hk', hx1 k c hk' hc]; exact (h.no ho).2 k c hk' hc
    · rw [hg2 k hk', hx2 k c hk' hc]; exact (h'.no ho).2 _ c (by simp at hk; omega) hc
theorem Zk5 {α : Type} {l : List α} {n i : Nat} {d : α} (h : i < n) : (l.take n).getD i d = l.getD i d := by simp [List.getD, h]
theorem Zk6 {α : Type} {l : List α} {n i : Nat} {d : α} : (l.drop n).getD i d = l.getD (n + i) d := by simp [List.getD]
theorem Els.take {w : World} {ok : Nat → Prop} {own : Bool} {l : List V} {ty : Ty} {xs : List Value} {F : Nat → Nat → List Nat} (h : Els tab w ok ty own l xs F) {n : Nat} (hn : n ≤ l.length) : Els tab w ok ty own (l.take n) (xs.take (n * ty.kinds.length)) F := by
  refine h.pick id (by rw [List.length_take, List.length_take, h.len, Nat.min_eq_left hn, Nat.min_eq_left (Nat.mul_le_mul_right _ hn)]) (fun k hk => by simp at hk; exact (by omega : k < l.length)) (fun k hk => ?_) fun k c hk hc => ?_
  · exact Zk5 (by simp at hk; omega)
  · exact Zk5 (ZbH (by simp at hk; omega) hc)
theorem Els.drop {w : World} {ok : Nat → Prop} {own : Bool} {l : List V} {ty : Ty} {xs : List Value} {F : Nat → Nat → List Nat} (h : Els tab w ok ty own l xs F) (n : Nat) : Els tab w ok ty own (l.drop n) (xs.drop (n * ty.kinds.length)) (fun k c => F (n + k) c) := by
  refine h.pick (fun k => n + k) (by simp [h.len, Nat.sub_mul]) (fun k hk => by simp at hk; omega) (fun k hk => Zk6) fun k c hk hc => ?_
  rw [Zk6, Nat.add_mul, Nat.add_assoc]
def ZfC (l : List V) (i j : Int) : Option (List V) := bif decide (0 ≤ i) && (decide (i ≤ j) && (decide (j ≤ (l.length : Int)) && decide (l.length ≤ 9223372036854775807))) then some (l.take i.toNat ++ l.drop j.toNat) else none
def Zfh (bytes : Nat) (l : List V) (i : Int) (x : List V) : Option (List V) := bif decide (0 ≤ i) && (decide (i ≤ (l.length : Int)) && (decide (x.length = 1) && Zw (l.length + 1) bytes)) then some (l.take i.toNat ++ x ++ l.drop i.toNat) else none
theorem ZpT {n m n' m' : Nat} {F F' : Nat → Nat → List Nat} (h : ∀ k c, k < n' → c < m' → ∃ k', k' < n ∧ ∃ c', c' < m ∧ F' k c = F k' c') : ∀ g ∈ Zz n' m' F', g ∈ Zz n m F := fun g hg => by
  obtain ⟨k, hk, c, hc, hg⟩ := mem_flatF.1 hg
  obtain ⟨k', hk', c', hc', e⟩ := h k c hk hc
  exact mem_flatF.2 ⟨k', hk', c', hc', e ▸ hg⟩
theorem Zo9 {n n' m : Nat} {F : Nat → Nat → List Nat} (φ : Nat → Nat) (hφ : ∀ k, k < n' → φ k < n) (hinj : ∀ k k', k < n' → k' < n' → φ k = φ k' → k = k') (h : (Zz n m F).Nodup) : (Zz n' m fun k c => F (φ k) c).Nodup := by
  rw [nodup_flatF] at h ⊢
  refine ⟨fun k c hk hc => h.1 _ _ (hφ k hk) hc, fun k c k' c' hk hc hk' hc' hne => h.2 _ _ _ _ (hφ k hk) hc (hφ k' hk') hc' ?_⟩
  rcases hne with hne | hne
  · exact .inl fun e => hne (hinj k k' hk hk' e)
  · exact .inr hne
end
end Go.Eng
namespace Go.Eng
variable {P : Program} {tab : Tab}
theorem Zn2 (a : Option Addr) (n cap : Nat) : Zp (.slice a n cap) = match a, cap with | some a, _ + 1 => [a.block] | _, _ => [] := by
  cases a <;> cases cap <;> rfl
theorem ZjV {w w' : World} {ok : Nat → Prop} {t n : List Nat} {v' : Value} {own : Bool} {l : List V} {ty : Ty} {xs : List Value} {F : Nat → Nat → List Nat} (h : Els tab w ok ty own l xs F)
    (hF : ∀ g ∈ Zz l.length ty.kinds.length F, g ∈ n) (hnd : (t ++ n).Nodup) (hok : ∀ g, ok g → g < w.heap.size ∧ g ∉ t) (hlt : ∀ g ∈ t ++ n, g < w.heap.size) (hk : KeptBut t w w') (htop : ∀ g ∈ Zp v', g ∈ t ∨ w.heap.size ≤ g) :
    Els tab w' (fun g => (ok g ∨ g ∈ t ++ n ∨ w.heap.size ≤ g) ∧ g < w'.heap.size ∧ g ∉ ([] ++ Zp v')) ty own l xs F := by
  refine h.keep (fun g hg => ⟨.inl hg, Nat.lt_of_lt_of_le (hok g hg).1 hk.size, fun hm => ?_⟩) (fun g hg => hk.block g (hok g hg).1 (hok g hg).2) fun i j hi hj g hg => ?_
  · rcases htop g (by simpa using hm) with h1 | h1
    · exact (hok g hg).2 h1
    · have := (hok g hg).1; omega
  · have hgn := hF g (mem_flatF.2 ⟨i, hi, j, hj, hg⟩)
    refine hk.block g (hlt g (List.mem_append_right _ hgn)) fun hm => ?_
    exact (List.nodup_append.1 hnd).2.2 g hm g hgn rfl
theorem ZjW {w w' : World} {ok : Nat → Prop} {args : List V} {vals : List Value} {t n : List Nat} {T : TypeId} {own : Bool} {r : List V} {v' : Value} {ty : Ty} {xs : List Value} {F : Nat → Nat → List Nat} {outs : List V} (ht : tab T = some ty)
    (hr : RowIs w' T ty.kinds.length r.length v' xs) (he : Els tab w' (fun g => (ok g ∨ g ∈ t ++ n ∨ w.heap.size ≤ g) ∧ g < w'.heap.size ∧ g ∉ ([] ++ Zp v')) ty own r xs F)
    (hO : ∀ R : V → Value → List Nat → List Nat → Prop, (∀ v, R .dead v [] []) → OutL R (Zbo args vals) outs [] []) (hnd : (t ++ n).Nodup) (hlt : ∀ g ∈ t ++ n, g < w.heap.size)
    (hF : ∀ g ∈ Zz r.length ty.kinds.length F, g ∈ n) (hFn : (Zz r.length ty.kinds.length F).Nodup) (hk : KeptBut t w w') (htop : ∀ g ∈ Zp v', g ∈ t ∨ w.heap.size ≤ g) :
    Zky tab w ok args vals t n (.rr T own r, outs) v' w' := by
  have hn1 : ∀ g ∈ Zz r.length ty.kinds.length F, g < w.heap.size ∧ g ∉ t := fun g hg => ⟨hlt g (List.mem_append_right _ (hF g hg)), fun hm => (List.nodup_append.1 hnd).2.2 g hm g (hF g hg) rfl⟩
  have hT : (Zp v').Nodup := by
    cases v' with
    | slice a n c => rw [Zn2]; split <;> simp
    | _ => simp [Zp]
  refine ⟨Zp v', Zz r.length ty.kinds.length F, [], [], .one (.one (.row (he.row ht hr))), hO _ fun v => .one (.tree (.dead _)), ?_, ?_, ?_, ?_, hk⟩
  · simp only [List.nil_append]
    rw [List.nodup_append]
    refine ⟨hT, hFn, fun a ha b hb e => ?_⟩
    subst e
    rcases htop a ha with h | h
    · exact (hn1 a hb).2 h
    · have := (hn1 a hb).1; omega
  · simpa using htop
  · intro g hg
    exact .inl (List.mem_append_right _ (hF g (by simpa using hg)))
  · intro g hg
    simp only [List.nil_append, List.mem_append] at hg
    rcases hg with hg | hg
    · exact hr.top_lt g hg
    · exact Nat.lt_of_lt_of_le (hn1 g hg).1 hk.size
theorem Zm9 {w : World} {ok : Nat → Prop} {k : IntKind} {m : Int} {v : Value} {t n : List Nat} (h : Rq2 tab w ok (.int k m) v t n) : v = .int k m ∧ t = [] ∧ n = [] := by
  cases h with | one h => cases h with | tree h => cases h; exact ⟨rfl, rfl, rfl⟩
theorem Zk7 {w : World} {ok : Nat → Prop} {T : TypeId} {own : Bool} {l : List V} {v : Value} {t n : List Nat} (h : Rq2 tab w ok (.rr T own l) v t n) : RowT tab w ok T own l v n ∧ t = Zp v := by
  cases h with | one h => cases h with
    | tree h => cases h
    | row h => exact ⟨h, rfl⟩
theorem RowIs.slice {w : World} {T : TypeId} {sz N : Nat} {v : Value} {xs : List Value} (h : RowIs w T sz N v xs) : ∃ a cap, v = .slice a N cap ∧ N ≤ cap ∧ cap ≤ maxLen := by
  rcases h.2 with ⟨a, rfl, rfl⟩ | ⟨g, cap, cur, rfl, h1, h2, h3, h4, _⟩
  · exact ⟨a, 0, rfl, Nat.le_refl _, by simp [maxLen]⟩
  · exact ⟨_, cap, rfl, h3, h4⟩
theorem Zox {f : FuncId} {T : TypeId} {ty : Ty} {own : Bool} {l r : List V} {i j : Int} (ht : tab T = some ty) (hD : ZhU P f T ty.kinds.length) (hS : ZfB P f) (hv : ZfC l i j = some r) (hne : T ≠ ZbG) :
    SumOk P tab f [.rr T own l, .int .i64 i, .int .i64 j] (.rr T own r, [.dead]) := by
  intro w ok vals t n hrq hnd hok hlt
  cases hrq with | @cons _ v t1 n1 _ vs1 ts1 ns1 hx hxs =>
  cases hxs with | @cons _ v2 t2 n2 _ vs2 ts2 ns2 hx2 hxs =>
  cases hxs with | @cons _ v3 t3 n3 _ vs3 ts3 ns3 hx3 hxs =>
  cases hxs
  obtain ⟨rfl, rfl, rfl⟩ := Zm9 hx2
  obtain ⟨rfl, rfl, rfl⟩ := Zm9 hx3
  obtain ⟨hrow, rfl⟩ := Zk7 hx
  simp only [List.append_nil] at hnd hok hlt ⊢
  unfold ZfC at hv
  rw [Bool.cond_eq_ite] at hv
  split at hv
  case isFalse => cases hv
  rename_i hb
  cases hv
  simp only [Bool.and_eq_true, decide_eq_true_eq] at hb
  obtain ⟨hi, hij, hjl, hl63⟩ := hb
  obtain ⟨i, rfl⟩ := Int.eq_ofNat_of_zero_le hi
  obtain ⟨j, rfl⟩ := Int.eq_ofNat_of_zero_le (Int.le_trans hi hij)
  have hij : i ≤ j := by omega
  have hjl : j ≤ l.length := by omega
  simp only [Int.toNat_natCast]
  obtain ⟨xs, F, hr, he, hn⟩ := hrow.els ht
  have hO : ∀ R : V → Value → List Nat → List Nat → Prop, (∀ v, R .dead v [] []) → OutL R (Zbo [V.rr T own l, .int .i64 (i : Int), .int .i64 (j : Int)] [v, .int .i64 (i : Int), .int .i64 (j : Int)]) [.dead] [] [] := fun R h =>
    (OutL.cons (p := (V.rr T own l, v)) (t := []) (n := []) trivial (h _) .nil : OutL R [(V.rr T own l, v)] [.dead] ([] ++ []) ([] ++ []))
  have hFn0 : (Zz l.length ty.kinds.length F).Nodup := by rw [← hn]; exact (List.nodup_append.1 hnd).2.1
  have hel := (he.take (n := i) (by omega)).append (he.drop j)
  have hF' : ∀ k c, (if k < (l.take i).length then F k c else F (j + (k - (l.take i).length)) c) = F (if k < i then k else j + (k - i)) c := fun k c => by
    have : (l.take i).length = i := by simp; omega
    rw [this]; split <;> rfl
  have hlen : (l.take i ++ l.drop j).length = l.length - (j - i) := by simp; omega
  have hφ : ∀ k, k < (l.take i ++ l.drop j).length → (if k < i then k else j + (k - i)) < l.length := fun k hk => by rw [hlen] at hk; split <;> omega
  have hsub : ∀ g ∈ Zz (l.take i ++ l.drop j).length ty.kinds.length (fun k c => if k < (l.take i).length then F k c else F (j + (k - (l.take i).length)) c), g ∈ n1 := by
    rw [hn]
    exact ZpT fun k c hk hc => ⟨_, hφ k hk, c, hc, hF' k c⟩
  have hnod : (Zz (l.take i ++ l.drop j).length ty.kinds.length (fun k c => if k < (l.take i).length then F k c else F (j + (k - (l.take i).length)) c)).Nodup := by
    have := Zo9 (fun k => if k < i then k else j + (k - i)) hφ (fun k k' hk hk' e => by
      split at e <;> split at e <;> omega) hFn0
    simpa only [hF'] using this
  by_cases heq : i = j
  · subst heq
    obtain ⟨a, cap, rfl, h1, h2⟩ := hr.slice
    refine Calls.mono (hS a l.length cap i w hjl h1 h2) ?_
    rintro e w' ⟨rfl, hk⟩
    have hk' : KeptBut (Zp (.slice a l.length cap)) w w' := hk.mono (by simp)
    refine ⟨_, rfl, ZjW ht (xs := xs.take (i * ty.kinds.length) ++ xs.drop (i * ty.kinds.length)) ?_ (ZjV hel hsub hnd hok hlt hk' fun g hg => .inl hg) hO hnd hlt hsub hnod hk' fun g hg => .inl hg⟩
    rw [List.take_append_drop, List.take_append_drop]
    refine hr.keep fun g hg => hk.block g (hlt g (List.mem_append_left _ hg)) (by simp)
  · rcases hr.2 with ⟨a, rfl, h0⟩ | ⟨g, cap, cur, rfl, hc, hg, hN, hm, hs, hx⟩
    · omega
    have hg := hg.zero hne
    refine Calls.mono (hD g l.length cap i j cur w hg hs hN hm (by rw [hx]; exact he.one) (by omega) hjl) ?_
    rintro e w' ⟨rfl, cur', k1, k2, k3, k4⟩
    have htop : Zp (Value.slice (some ⟨g, 0, none⟩) (l.length - (j - i)) cap) = Zp (Value.slice (some ⟨g, 0, none⟩) l.length cap) := by rw [ZcQ _ _ _ hc, ZcQ _ _ _ hc]
    have hk' : KeptBut (Zp (Value.slice (some ⟨g, 0, none⟩) l.length cap)) w w' := by rw [ZcQ _ _ _ hc]; exact k4
    refine ⟨_, rfl, ZjW ht (xs := xs.take (i * ty.kinds.length) ++ xs.drop (j * ty.kinds.length)) ?_ (ZjV hel hsub hnd hok hlt hk' fun g hg => .inl (htop ▸ hg)) hO hnd hlt hsub hnod hk' fun g hg => .inl (htop ▸ hg)⟩
    rw [hlen]
    exact ZhW hc k1 (by omega) hm k2 (by rw [k3, hx])
theorem Zlz {f : FuncId} {T : TypeId} {ty : Ty} {own : Bool} {l x r : List V} {i : Int} (ht : tab T = some ty) (hI : ZhV P f T ty.kinds.length ty.bytes) (hv : Zfh ty.bytes l i x = some r) :
    SumOk P tab f [.rr T own l, .int .i64 i, .rr T own x] (.rr T own r, [.dead, .dead]) := by
  intro w ok vals t n hrq hnd hok hlt
  cases hrq with | @cons _ v t1 n1 _ vs1 ts1 ns1 hx hxs =>
  cases hxs with | @cons _ v2 t2 n2 _ vs2 ts2 ns2 hx2 hxs =>
  cases hxs with | @cons _ v3 t3 n3 _ vs3 ts3 ns3 hx3 hxs =>
  cases hxs
  obtain ⟨rfl, rfl, rfl⟩ := Zm9 hx2
  obtain ⟨hrow, rfl⟩ := Zk7 hx
  obtain ⟨hrow3, rfl⟩ := Zk7 hx3
  simp only [List.append_nil, List.nil_append] at hnd hok hlt ⊢
  unfold Zfh at hv
  rw [Bool.cond_eq_ite] at hv
  split at hv
  case isFalse => cases hv
  rename_i hb
  cases hv
  simp only [Bool.and_eq_true, decide_eq_true_eq, Zw] at hb
  obtain ⟨hi, hil, hx1, hr63, hrb⟩ := hb
  obtain ⟨i, rfl⟩ := Int.eq_ofNat_of_zero_le hi
  have hil : i ≤ l.length := by omega
  simp only [Int.toNat_natCast]
  obtain ⟨xs, F, hr, he, hn⟩ := hrow.els ht
  obtain ⟨ys, G, hr3, he3, hn3⟩ := hrow3.els ht
  subst hn; subst hn3
  have hO : ∀ R : V → Value → List Nat → List Nat → Prop, (∀ v, R .dead v [] []) → OutL R (Zbo [V.rr T own l, .int .i64 (i : Int), .rr T own x] [v, .int .i64 (i : Int), v3]) [.dead, .dead] [] [] := fun R h =>
    (OutL.cons (p := (V.rr T own l, v)) (t := []) (n := []) trivial (h _) (OutL.cons (p := (V.rr T own x, v3)) (t := []) (n := []) trivial (h _) .nil) : OutL R [(V.rr T own l, v), (V.rr T own x, v3)] [.dead, .dead] ([] ++ ([] ++ [])) ([] ++ ([] ++ [])))
  have hel := ((he.take (n := i) hil).append he3).append (he.drop i)
  have hli : (l.take i).length = i := by simp; omega
  have hlix : (l.take i ++ x).length = i + 1 := by simp [hx1]; omega
  have hlen : (l.take i ++ x ++ l.drop i).length = l.length + 1 := by simp [hx1]; omega
  obtain ⟨F', hF'⟩ : ∃ F' : Nat → Nat → List Nat, F' = fun k c => if k < (l.take i ++ x).length then (if k < (l.take i).length then F k c else G (k - (l.take i).length) c) else F (i + (k - (l.take i ++ x).length)) c := ⟨_, rfl⟩
  rw [← hF'] at hel
  have c1 : ∀ k c, k < i → F' k c = F k c := fun k c hk => by rw [hF']; simp only [hlix, hli]; rw [if_pos (by omega), if_pos hk]
  have c2 : ∀ c, F' i c = G 0 c := fun c => by rw [hF']; simp only [hlix, hli]; rw [if_pos (by omega), if_neg (by omega), Nat.sub_self]
  have c3 : ∀ k c, i < k → F' k c = F (k - 1) c := fun k c hk => by rw [hF']; simp only [hlix, hli]; rw [if_neg (by omega)]; congr 1; omega
  obtain ⟨⟨hT1, hT2, hT3⟩, ⟨hN1, hN2, hN3⟩, hTN⟩ := (List.nodup_append.1 hnd).imp List.nodup_append.1 fun h => h.imp List.nodup_append.1 id
  have hFn := nodup_flatF.1 hN1
  have hGn := nodup_flatF.1 hN2
  have hFG : ∀ k c c' g, k < l.length → c < ty.kinds.length → c' < ty.kinds.length → g ∈ F k c → g ∈ G 0 c' → False := fun k c c' g hk hc hc' h1 h2 => hN3 g (mem_flatF.2 ⟨k, hk, c, hc, h1⟩) g (mem_flatF.2 ⟨0, by omega, c', hc', h2⟩) rfl
  have hsub : ∀ g ∈ Zz (l.take i ++ x ++ l.drop i).length ty.kinds.length F', g ∈ Zz l.length ty.kinds.length F ++ Zz x.length ty.kinds.length G := fun g hg0 => by
    obtain ⟨k, hk, c, hc, hg⟩ := mem_flatF.1 hg0
    clear hg0
    rw [hlen] at hk
    rcases Nat.lt_trichotomy k i with h | h | h
    · rw [c1 k c h] at hg; exact List.mem_append_left _ (mem_flatF.2 ⟨k, by omega, c, hc, hg⟩)
    · subst h; rw [c2 c] at hg; exact List.mem_append_right _ (mem_flatF.2 ⟨0, by omega, c, hc, hg⟩)
    · rw [c3 k c h] at hg; exact List.mem_append_left _ (mem_flatF.2 ⟨k - 1, by omega, c, hc, hg⟩)
  have hnod : (Zz (l.take i ++ x ++ l.drop i).length ty.kinds.length F').Nodup := by
    rw [nodup_flatF, hlen]
    refine ⟨fun k c hk hc => ?_, fun k c k' c' hk hc hk' hc' hne g hg hg' => ?_⟩
    · rcases Nat.lt_trichotomy k i with h | h | h
      · rw [c1 k c h]; exact hFn.1 k c (by omega) hc
      · subst h; rw [c2 c]; exact hGn.1 0 c (by omega) hc
      · rw [c3 k c h]; exact hFn.1 _ c (by omega) hc
    · rcases Nat.lt_trichotomy k i with h | h | h <;> rcases Nat.lt_trichotomy k' i with h' | h' | h'
      · rw [c1 k c h] at hg; rw [c1 k' c' h'] at hg'; exact hFn.2 k c k' c' (by omega) hc (by omega) hc' hne g hg hg'
      · subst h'; rw [c1 k c h] at hg; rw [c2 c'] at hg'; exact hFG k c c' g (by omega) hc hc' hg hg'
      · rw [c1 k c h] at hg; rw [c3 k' c' h'] at hg'; exact hFn.2 k c (k' - 1) c' (by omega) hc (by omega) hc' (.inl (by omega)) g hg hg'
      · subst h; rw [c2 c] at hg; rw [c1 k' c' h'] at hg'; exact hFG k' c' c g (by omega) hc' hc hg' hg
      · subst h; subst h'; rw [c2 c] at hg; rw [c2 c'] at hg'; exact hGn.2 0 c 0 c' (by omega) hc (by omega) hc' (.inr (by rcases hne with e | e; exact absurd rfl e; exact e)) g hg hg'
      · subst h; rw [c2 c] at hg; rw [c3 k' c' h'] at hg'; exact hFG (k' - 1) c' c g (by omega) hc' hc hg' hg
      · rw [c3 k c h] at hg; rw [c1 k' c' h'] at hg'; exact hFn.2 (k - 1) c k' c' (by omega) hc (by omega) hc' (.inl (by omega)) g hg hg'
      · subst h'; rw [c3 k c h] at hg; rw [c2 c'] at hg'; exact hFG (k - 1) c c' g (by omega) hc hc' hg hg'
      · rw [c3 k c h] at hg; rw [c3 k' c' h'] at hg'
        exact hFn.2 (k - 1) c (k' - 1) c' (by omega) hc (by omega) hc' (by rcases hne with e | e; exact .inl (by omega); exact .inr e) g hg hg'
  rw [hx1] at hr3
  refine Calls.mono (hI w v v3 l.length i xs ys hr hr3 (fun g hg hg' => hT3 g hg g hg' rfl) he.one he3.one hil hrb hr63) ?_
  rintro e w' ⟨v', rfl, k1, k2, k3⟩
  have hk' : KeptBut (Zp v ++ Zp v3) w w' := k2.mono fun g hg => List.mem_append_left _ hg
  have htop : ∀ g ∈ Zp v', g ∈ Zp v ++ Zp v3 ∨ w.heap.size ≤ g := fun g hg => (k3 g hg).imp (List.mem_append_left _) id
  exact ⟨v', rfl, ZjW ht (by rw [hlen]; exact k1) (ZjV hel hsub hnd hok hlt hk' htop) hO hnd hlt hsub hnod hk' htop⟩
def enDel (hB : Base P tab) {f : FuncId} {fn : Func} (hf : P.funcs[f]? = some fn) (hb : (!(fn.name == "runtime.NumGoroutine") && fn.body.isSome) = true) (T : TypeId) {ty : Ty} (ht : tab T = some ty) (own : Bool) (hD : ZhU P f T ty.kinds.length) (hS : ZfB P f) (par : List (Option TypeId)) (hne : Nat.beq T ZbG = false := by rfl) : En P tab :=
  { f := f
    s := fun a => bif Zbq [.one (.rr T own), .one (.int .i64), .one (.int .i64)] a then some ((ZfC (rd a 0).L (rd a 1).I (rd a 2).I).isSome, (V.rr T own ((ZfC (rd a 0).L (rd a 1).I (rd a 2).I).getD default), [V.dead])) else none
    ok := by
      intro args r h
      cases hs : Zbq [.one (.rr T own), .one (.int .i64), .one (.int .i64)] args with
      | false => rw [hs] at h; cases h
      | true =>
        rw [hs] at h
        simp only [cond_true, Option.some.injEq, Prod.mk.injEq] at h
        obtain ⟨h1, h2⟩ := h
        obtain ⟨x, hx⟩ := Option.isSome_iff_exists.1 h1
        rw [hx] at h2
        have ha := Zdi (pre := []) hs
        simp only [List.nil_append, List.length_nil, Zdy, S2.mk, S1.mk] at ha
        rw [← ha, ← h2]
        exact Zox ht hD hS hx fun e => by rw [e, Nat.beq_refl] at hne; cases hne
    en := Zcj hf hb, par := par, wr := true }
def enIns (hB : Base P tab) {f : FuncId} {fn : Func} (hf : P.funcs[f]? = some fn) (hb : (!(fn.name == "runtime.NumGoroutine") && fn.body.isSome) = true) (T : TypeId) {ty : Ty} (ht : tab T = some ty) (own : Bool) (bytes : Nat) (hbytes : ty.bytes = bytes) (hI : ZhV P f T ty.kinds.length ty.bytes) (par : List (Option TypeId)) : En P tab :=
  { f := f
    s := fun a => bif Zbq [.one (.rr T own), .one (.int .i64), .one (.rr T own)] a then some ((Zfh bytes (rd a 0).L (rd a 1).I (rd a 2).L).isSome, (V.rr T own ((Zfh bytes (rd a 0).L (rd a 1).I (rd a 2).L).getD default), [V.dead, V.dead])) else none
    ok := by
      intro args r h
      cases hs : Zbq [.one (.rr T own), .one (.int .i64), .one (.rr T own)] args with
      | false => rw [hs] at h; cases h
      | true =>
        rw [hs] at h
        simp only [cond_true, Option.some.injEq, Prod.mk.injEq] at h
        obtain ⟨h1, h2⟩ := h
        obtain ⟨x, hx⟩ := Option.isSome_iff_exists.1 h1
        rw [hx] at h2
        have ha := Zdi (pre := []) hs
        simp only [List.nil_append, List.length_nil, Zdy, S2.mk, S1.mk] at ha
        rw [← ha, ← h2]
        subst hbytes
        exact Zlz ht hI hx
    en := Zcj hf hb, par := par, wr := true }
end Go.Eng
namespace Go.Eng
variable {P : Program} {tab : Tab}
def ZgD (a b : List V) : Int := bif Zca (a.map Zay) (b.map Zay) then -1 else bif Zbx (a.map Zay) (b.map Zay) then 0 else 1
theorem ZgU : ∀ a b : List UInt8, Lib.compareBytes a b = if Op.bytesLess a b = true then -1 else if (a == b) = true then 0 else 1
  | [], [] => rfl
  | [], _ :: _ => rfl
  | _ :: _, [] => rfl
  | x :: a, y :: b => by
    have ih := ZgU a b
    unfold Lib.compareBytes
    simp only [Op.bytesLess, List.cons_beq_cons, Bool.or_eq_true, Bool.and_eq_true, decide_eq_true_eq]
    by_cases h1 : x < y
    · simp [h1]
    · by_cases h2 : y < x
      · have h3 : x ≠ y := fun e => h1 (e ▸ h2)
        simp [h1, h2, h3]
      · have h3 : x = y := UInt8.le_antisymm (UInt8.not_lt.1 h2) (UInt8.not_lt.1 h1)
        subst h3
        simp [ih]
theorem ZjI {w : World} {ok : Nat → Prop} {e : TypeId} {et : Ty} (he : tab e = some et) (ha : et.agg = false) (hk : et.kinds = [.int .u8]) {l : List V} {v : Value} (h : Rp tab w ok (.inl e l) v) :
    ∃ s, (Extern.Bytes.bytesOf v).run P w = .ok s w ∧ Z6 s = l.map Zay := by
  cases h with | inl _ _ ty a cap g off cv h1 h2 h3 h4 h5 h6 =>
  obtain rfl : et = ty := Option.some.inj (he.symm.trans h1)
  by_cases hl : l = []
  · subst hl
    cases a with
    | none => exact ⟨.empty, by simp [Extern.Bytes.bytesOf], rfl⟩
    | some a => exact ⟨.empty, by simp [Extern.Bytes.bytesOf, Extern.Bytes.loadBytes], rfl⟩
  · obtain ⟨rfl, -⟩ := h3 hl
    have hel : ∀ i, i < l.length → cv i 0 = .int .u8 ((l.getD i .dead).I) := fun i hi => by
      have hs := h4 i hi
      have hc0 : (l.getD i .dead).cell 0 = l.getD i .dead := by
        have hna := hs.2.2.1 ha
        cases hx : l.getD i .dead <;> first | rfl | exact absurd hx (hna _)
      have hkk := hs.2.2.2 0 (by rw [hk]; exact Nat.one_pos)
      have hr := h6 i 0 hi (by rw [hk]; exact Nat.one_pos)
      rw [hk] at hkk
      rw [hc0] at hkk hr
      cases hx : l.getD i .dead <;> rw [hx] at hkk hr <;> simp [kindOk] at hkk
      subst hkk
      rw [hr.int_eq]; rfl
    have hcell : ∀ j x, (l.map V.I)[j]? = some x → w.cell? ((⟨g, off, none⟩ : Addr).add j) = some (.int .u8 x) := fun j x hj => by
      have hlt : j < l.length := by have := (List.getElem?_eq_some_iff.1 hj).1; simpa using this
      have := h5 j 0 hlt (by rw [hk]; exact Nat.one_pos)
      rw [hk] at this
      rw [Addr.add_none]
      simp only [List.length_cons, List.length_nil, Nat.zero_add, Nat.mul_one, Nat.add_zero] at this
      rw [this, hel j hlt]
      have e2 := (List.getElem?_eq_some_iff.1 hj).2
      simp at e2
      rw [← e2]; simp [List.getD, hlt]
    have hrun := Lib.run_loadBytesX (P := P) w (l.map V.I) ⟨g, off, none⟩ .empty hcell
    rw [List.length_map] at hrun
    refine ⟨_, by simp only [Extern.Bytes.bytesOf]; exact hrun, ?_⟩
    simp only [Z6, Lib.bytesOf]
    simp
    intro x _
    simp [Zay]
theorem cmp_spec {a b : ByteArray} {x y : List V} (ha : Z6 a = x) (hb : Z6 b = y) : Extern.BytealgCompare.cmp a b = bif Zca x y then -1 else bif Zbx x y then 0 else 1 := by
  rw [Lib.cmp_eq, ZgU, ← ha, ← hb, ZmA, Zif]
  simp only [Bool.cond_eq_ite]
def CmpOk (P : Program) (f : FuncId) : Prop := ∀ (v1 v2 : Value) (c : Int) (w : World), (Extern.BytealgCompare.compare #[v1, v2]).run P w = .ok (.int .i64 c) w → Calls P f #[v1, v2] w fun e w' => e = .returned (.int .i64 c) ∧ KeptBut [] w w'
theorem rq_inl {w : World} {ok : Nat → Prop} {T : TypeId} {l : List V} {v : Value} {t n : List Nat} (h : Rq2 tab w ok (.inl T l) v t n) : Rp tab w ok (.inl T l) v ∧ t = [] ∧ n = [] := by
  cases h with | one h => cases h with | tree h => exact ⟨h, rfl, rfl⟩
theorem Zoy {f : FuncId} {e : TypeId} {et : Ty} (he : tab e = some et) (ha : et.agg = false) (hk : et.kinds = [.int .u8]) (hC : CmpOk P f) (a b : List V) : SumOk P tab f [.inl e a, .inl e b] (.int .i64 (ZgD a b), []) := by
  intro w ok vals t n hrq hnd hok hlt
  cases hrq with | @cons _ v t1 n1 _ vs1 ts1 ns1 hx hxs =>
  cases hxs with | @cons _ v2 t2 n2 _ vs2 ts2 ns2 hx2 hxs =>
  cases hxs
  obtain ⟨r1, rfl, rfl⟩ := rq_inl hx
  obtain ⟨r2, rfl, rfl⟩ := rq_inl hx2
  obtain ⟨s1, e1, e2⟩ := ZjI (P := P) he ha hk r1
  obtain ⟨s2, e3, e4⟩ := ZjI (P := P) he ha hk r2
  have hrun : (Extern.BytealgCompare.compare #[v, v2]).run P w = .ok (.int .i64 (ZgD a b)) w := by
    change Sem.run P (do pure (goInt (Extern.BytealgCompare.cmp (← Extern.Bytes.bytesOf v) (← Extern.Bytes.bytesOf v2)))) w = _
    simp only [Sem.run_bind, e1, e3, Result.andThen_ok, Sem.run_pure]
    rw [cmp_spec e2 e4]
    rfl
  refine (hC v v2 _ w hrun).mono ?_
  rintro e' w' ⟨rfl, hkp⟩
  exact ⟨_, rfl, [], [], [], [], .one (.one (.tree (.int _ _))), .nil, by simp, by simp, by simp, by simp, hkp.mono (by simp)⟩
def enCmp (hB : Base P tab) {f : FuncId} {fn : Func} (hf : P.funcs[f]? = some fn) (hb : (!(fn.name == "runtime.NumGoroutine") && fn.body.isSome) = true) (e : TypeId) {et : Ty} (he : tab e = some et) (ha : et.agg = false) (hk : et.kinds = [.int .u8]) (hC : CmpOk P f) (par : List (Option TypeId)) : En P tab :=
  { f := f
    s := fun a => bif Zbq [.one (.inl e), .one (.inl e)] a then some (true, (V.int .i64 (ZgD (rd a 0).L (rd a 1).L), [])) else none
    ok := by
      intro args r h
      cases hs : Zbq [.one (.inl e), .one (.inl e)] args with
      | false => rw [hs] at h; cases h
      | true =>
        rw [hs] at h
        simp only [cond_true, Option.some.injEq, Prod.mk.injEq, true_and] at h
        have h2 := h
        have ha' := Zdi (pre := []) hs
        simp only [List.nil_append, List.length_nil, Zdy, S2.mk, S1.mk] at ha'
        rw [← ha', ← h2]
        exact Zoy he ha hk hC _ _
    en := Zcj hf hb, par := par, wr := false }
end Go.Eng
namespace Go.Eng
variable {P : Program} {tab : Tab}
structure Reads (P : Program) (w : World) (sz m : Nat) (v : Value) (ys : List Value) : Prop where
  len : ys.length = m * sz
  one : ZdQ ys
  lenOf : ∀ W, (Builtin.lenOf v).run P W = .ok m W
  cells : ∀ W : World, (∀ g, g < w.heap.size → W.heap[g]? = w.heap[g]?) → (Builtin.firstCells sz m v).run P W = .ok ys.toArray W
end Go.Eng
namespace Go.Eng
end Go.Eng
namespace Go.Eng
variable {P : Program} {tab : Tab}
end Go.Eng
namespace Go.Eng
noncomputable section
variable {P : Program} {tab : Tab}
def sumsK (c d e T : Nat) : Sums := fun f args => bif Nat.beq f c then (match args with
    | [.inl e1 a, .inl e2 b] => bif Nat.beq e1 e && Nat.beq e2 e then some (true, (.int .i64 (ZgD a b), [])) else none
    | _ => none)
  else bif Nat.beq f d then (match args with
    | [.rr T1 own l, .int .i64 i, .int .i64 j] => bif Nat.beq T1 T then (match ZfC l i j with | some r => some (true, (.rr T own r, [.dead])) | none => none) else none
    | _ => none)
  else none
theorem sumsK_ok {c d e T : Nat} {et ty : Ty} (he : tab e = some et) (ha : et.agg = false) (hk : et.kinds = [.int .u8]) (hC : CmpOk P c) (hcE : ZfU P c) (ht : tab T = some ty) (hD : ZhU P d T ty.kinds.length) (hS : ZfB P d) (hdE : ZfU P d) (hne : Nat.beq T ZbG = false := by rfl) : Zbh P tab (sumsK c d e T) := by
  intro f args r h
  unfold sumsK at h
  cases hc : Nat.beq f c with
  | true =>
    obtain rfl := Nat.eq_of_beq_eq_true hc
    rw [hc, cond_true] at h
    split at h
    · rename_i e1 a e2 b
      cases hq : (Nat.beq e1 e && Nat.beq e2 e) with
      | false => rw [hq] at h; cases h
      | true =>
        rw [hq] at h
        cases h
        rw [Bool.and_eq_true] at hq
        obtain rfl := Nat.eq_of_beq_eq_true hq.1
        obtain rfl := Nat.eq_of_beq_eq_true hq.2
        exact ⟨hcE, Zoy he ha hk hC a b⟩
    · cases h
  | false =>
    rw [hc, cond_false] at h
    cases hd : Nat.beq f d with
    | false => rw [hd] at h; cases h
    | true =>
      obtain rfl := Nat.eq_of_beq_eq_true hd
      rw [hd, cond_true] at h
      split at h
      · rename_i T1 own l i j
        cases hq : Nat.beq T1 T with
        | false => rw [hq] at h; cases h
        | true =>
          rw [hq, cond_true] at h
          obtain rfl := Nat.eq_of_beq_eq_true hq
          split at h
          · rename_i x hx
            cases h
            exact ⟨hdE, Zox ht hD hS hx fun e => by rw [e, Nat.beq_refl] at hne; cases hne⟩
          · cases h
      · cases h
def cfgK (tab : Tab) (c d e T : Nat) : Cfg := { tab := tab, sums := sumsK c d e T, mutf := fun f => Nat.beq f d }
def enB {f : FuncId} {fn : Func} (hf : P.funcs[f]? = some fn) (hb : (!(fn.name == "runtime.NumGoroutine") && fn.body.isSome) = true) {b : Bool} (h : SumOk P tab f [] (.bool b, [])) : En P tab :=
  { f := f
    s := fun a => bif a.isEmpty then some (true, (V.bool b, [])) else none
    ok := by
      intro args r hr
      cases args with
      | nil => cases hr; exact h
      | cons _ _ => cases hr
    en := Zcj hf hb, par := [], wr := false }
theorem run_sum {cfg : Cfg} (hT : Zx P cfg.tab) (hS : Zbh P cfg.tab cfg.sums) (hmix : P.follows .mixedOrders = true) {il fl cl : List Nat} {cnf : Nat → ZeA} (hil : fnsB P il = true) (hfl : fnsB P fl = true) {m k : Nat} {cn : ZeA} {f : FuncId} {fn : Func} (hf : P.funcs[f]? = some fn) (hok : fnOk fn = true) {args : List V} (hlen : Nat.ble args.length fn.ntmps = true) {n : Nat} {r : V × List V}
    (h : Zc8 { cfg with sums := ZeY P cfg (ZgT P il) fl cl cnf m k } (ZgT P il) cn n fn args = some r) : SumOk P cfg.tab f args r := by
  simp only [fnOk, Bool.and_eq_true] at hok
  have hb : fn.body = some (ZY fn) := by
    unfold ZY
    cases hq : fn.body with
    | none => rw [hq] at hok; simp at hok
    | some c => rfl
  exact ZiF (cfg := { cfg with sums := ZeY P cfg (ZgT P il) fl cl cnf m k }) hT (ZkT hT hS hmix (ZiG hil) hfl cl cnf m k) hmix (ZiG hil) hf hb hok.2 (Nat.le_of_ble_eq_true hlen) h
end
end Go.Eng
namespace Go.Eng
def nlt (a b : List V) : Bool := Zca (a.map Zay) (b.map Zay)
def neq (a b : List V) : Bool := Zbx (a.map Zay) (b.map Zay)
def Zq (a : List V) : List Int := a.map fun x => ((x.I.toNat % 256 : Nat) : Int)
theorem Zcu : ∀ a b : List V, neq a b = decide (Zq a = Zq b)
  | [], [] => rfl
  | [], _ :: _ => rfl
  | _ :: _, [] => rfl
  | x :: a, y :: b => by
    have ih := Zcu a b
    simp only [neq, Zq, List.map_cons, Zbx, Zay, V.I, List.cons.injEq] at ih ⊢
    rw [ih]
    by_cases h : ((x.I.toNat % 256 : Nat) : Int) = ((y.I.toNat % 256 : Nat) : Int) <;> simp
def ltC : List Int → List Int → Bool
  | _, [] => false
  | [], _ :: _ => true
  | a :: x, b :: y => decide (a < b) || (decide (a = b) && ltC x y)
theorem Zc9 : ∀ a b : List V, nlt a b = ltC (Zq a) (Zq b)
  | [], [] => rfl
  | [], _ :: _ => rfl
  | _ :: _, [] => rfl
  | x :: a, y :: b => by
    have ih := Zc9 a b
    show (decide ((Zay x).I < (Zay y).I) || (decide ((Zay x).I = (Zay y).I) && nlt a b)) = ltC (Zq (x :: a)) (Zq (y :: b))
    rw [ih]
    rfl
theorem Zoz : ∀ a, ltC a a = false
  | [] => rfl
  | x :: a => by simp [ltC, Zoz a]
theorem ZlW : ∀ a b c, ltC a b = true → ltC b c = true → ltC a c = true
  | _, [], _, h, _ => by cases ‹List Int› <;> simp [ltC] at h
  | _, _ :: _, [], _, h => by simp [ltC] at h
  | [], _ :: _, _ :: _, _, _ => rfl
  | x :: a, y :: b, z :: c, h1, h2 => by
    simp only [ltC, Bool.or_eq_true, Bool.and_eq_true, decide_eq_true_eq] at h1 h2 ⊢
    rcases h1 with h1 | ⟨rfl, h1⟩ <;> rcases h2 with h2 | ⟨rfl, h2⟩
    · exact .inl (by omega)
    · exact .inl h1
    · exact .inl h2
    · exact .inr ⟨rfl, ZlW a b c h1 h2⟩
theorem ZoA : ∀ a b, ltC a b = false → ltC b a = false → a = b
  | [], [], _, _ => rfl
  | [], _ :: _, h, _ => by simp [ltC] at h
  | _ :: _, [], _, h => by simp [ltC] at h
  | x :: a, y :: b, h1, h2 => by
    simp only [ltC, Bool.or_eq_false_iff, decide_eq_false_iff_not, Bool.and_eq_false_iff] at h1 h2
    obtain rfl : x = y := by omega
    rcases h1.2 with h | h
    · exact absurd rfl h
    · rcases h2.2 with h' | h'
      · exact absurd rfl h'
      · rw [ZoA a b h h']
theorem ZiI {a b c : List V} (h1 : nlt a b = true) (h2 : nlt b c = true) : nlt a c = true := by rw [Zc9] at *; exact ZlW _ _ _ h1 h2
theorem Zi7 {a b : List V} (h : nlt a b = true) : neq a b = false := by
  rw [Zc9] at h
  rw [Zcu, decide_eq_false_iff_not]
  intro e
  rw [e, Zoz] at h; cases h
theorem Zn3 {a b c : List V} (h : neq b c = true) : nlt a b = nlt a c := by
  rw [Zcu, decide_eq_true_eq] at h
  rw [Zc9, Zc9, h]
theorem nlt_tri {a b : List V} (h1 : nlt a b = false) (h2 : neq a b = false) : nlt b a = true := by
  cases h : nlt b a with
  | true => rfl
  | false =>
    rw [Zc9] at h h1
    rw [Zcu, decide_eq_false_iff_not] at h2
    exact absurd (ZoA _ _ h1 h) h2
theorem cmpV_neg (a b : List V) : decide (ZgD a b < 0) = nlt a b := by
  show decide ((bif nlt a b then (-1 : Int) else bif neq a b then 0 else 1) < 0) = _
  cases nlt a b <;> cases neq a b <;> rfl
theorem Zn4 (a b : List V) : decide ((0 : Int) ≤ ZgD a b) = !nlt a b := by
  show decide ((0 : Int) ≤ (bif nlt a b then (-1 : Int) else bif neq a b then 0 else 1)) = _
  cases nlt a b <;> cases neq a b <;> rfl
theorem ZpU (a b : List V) : decide (ZgD a b = 0) = (!nlt a b && neq a b) := by
  show decide ((bif nlt a b then (-1 : Int) else bif neq a b then 0 else 1) = 0) = _
  cases nlt a b <;> cases neq a b <;> rfl
theorem Zpa (a b : List V) : decide (ZgD a b = 0) = neq a b := by
  rw [ZpU]
  cases h : neq a b with
  | false => simp
  | true =>
    cases h' : nlt a b with
    | false => rfl
    | true => rw [Zi7 h'] at h; cases h
theorem wr_mid {i j : Nat} (h : i + j < 9223372036854775808) : IntKind.i64.wrap (ZeQ .u64 (IntKind.u64.wrap (IntKind.i64.wrap ((i : Int) + (j : Int)))) 1) = (((i + j) / 2 : Nat) : Int) := by
  rw [Zap (n := (i : Int) + (j : Int)) (by omega) (by omega)]
  have hu : IntKind.u64.wrap ((i : Int) + (j : Int)) = (i : Int) + (j : Int) := by
    have := IntWalk.u64_in ((i : Int) + (j : Int)) (by omega)
    exact this
  rw [hu]
  have : ZeQ .u64 ((i : Int) + (j : Int)) 1 = (((i + j) / 2 : Nat) : Int) := by
    unfold ZeQ
    rw [show ((2 : Int) ^ (min (1 : Int).toNat IntKind.u64.bits)) = 2 from by decide, Int.fdiv_eq_ediv_of_nonneg _ (by omega)]
    omega
  rw [this, Zap (by omega) (by omega)]
theorem Zi8 {ρ : Type} {F : Nat → Int → Int → ρ} {x : List V} {p : V → Bool} {n0 : Nat} {out : Int → ρ} (hx : x.length < 4611686018427387904) (hp : ∀ i, i < x.length → p (rd x i) = decide (i < n0))
    (h1 : ∀ m (i j : Nat), i < j → j ≤ x.length → F (m + 1) (i : Int) (j : Int) = bif p (rd x ((i + j) / 2)) then F m (((i + j) / 2 + 1 : Nat) : Int) (j : Int) else F m (i : Int) (((i + j) / 2 : Nat) : Int)) (h0 : ∀ m (i : Nat), F (m + 1) (i : Int) (i : Int) = out (i : Int)) :
    ∀ m (i j : Nat), i ≤ n0 → n0 ≤ j → j ≤ x.length → j - i < m → F m (i : Int) (j : Int) = out (n0 : Int)
  | 0, i, j, _, _, _, h => by omega
  | m + 1, i, j, hi, hj, hl, hm => by
    rcases Nat.lt_or_ge i j with h | h
    · rw [h1 m i j h hl, hp _ (by omega)]
      by_cases hc : (i + j) / 2 < n0
      · rw [decide_eq_true hc, cond_true]
        exact Zi8 hx hp h1 h0 m _ j (by omega) hj hl (by omega)
      · rw [decide_eq_false hc, cond_false]
        exact Zi8 hx hp h1 h0 m i _ hi (by omega) (by omega) (by omega)
    · obtain rfl : i = j := by omega
      obtain rfl : n0 = i := by omega
      exact h0 m n0
theorem Zd5 {ρ : Type} {F : Nat → Int → ρ} {n : Nat} {q : Nat → Bool} {yes no : ρ}
    (h1 : ∀ m (i : Nat), i < n → F (m + 1) (i : Int) = bif q i then F m ((i + 1 : Nat) : Int) else no) (h0 : ∀ m, F (m + 1) (n : Int) = yes) :
    F (n + 1) 0 = bif (List.range n).all q then yes else no := by
  refine Zdj (F := fun m (_ : Unit) i => F m i) (n := n) (fun i _ => (List.range i).all q = true) (fun o => o = bif (List.range n).all q then yes else no) ?_ ?_ (s := ()) (by simp)
  · intro m i s hi hI
    rw [h1 m i hi]
    cases hp : q i with
    | true =>
      refine .inl ⟨(), rfl, ?_⟩
      rw [List.range_succ, List.all_append, hI]; simp [hp]
    | false =>
      refine .inr ?_
      have : (List.range n).all q = false := by
        rw [List.all_eq_false]
        exact ⟨i, List.mem_range.2 hi, by simp [hp]⟩
      rw [this]; rfl
  · intro m s hI
    show F (m + 1) (n : Int) = _
    rw [hI]; exact h0 m
def Zr (q : Nat → Bool) : Nat → Nat → Option Nat
  | _, 0 => none
  | i, k + 1 => bif q i then some i else Zr q (i + 1) k
theorem Zdk {ρ : Type} {F : Nat → Int → ρ} {n : Nat} {q : Nat → Bool} {no : ρ} {out : Int → ρ}
    (h1 : ∀ m (i : Nat), i < n → F (m + 1) (i : Int) = bif q i then out (i : Int) else F m ((i + 1 : Nat) : Int)) (h0 : ∀ m, F (m + 1) (n : Int) = no) :
    ∀ m (i : Nat), i ≤ n → n - i < m → F m (i : Int) = match Zr q i (n - i) with | some j => out (j : Int) | none => no
  | 0, i, _, h => by omega
  | m + 1, i, hi, hm => by
    rcases Nat.lt_or_ge i n with h | h
    · rw [h1 m i h, show n - i = (n - (i + 1)) + 1 from by omega, Zr]
      cases q i with
      | true => rfl
      | false => exact Zdk h1 h0 m (i + 1) (by omega) (by omega)
    · obtain rfl : i = n := by omega
      rw [Nat.sub_self, Zr]; exact h0 m
theorem firstI_none {q : Nat → Bool} : ∀ {k i : Nat}, Zr q i k = none ↔ ∀ j, i ≤ j → j < i + k → q j = false
  | 0, i => by simp [Zr]; omega
  | k + 1, i => by
    rw [Zr]
    cases hq : q i with
    | true => simp; exact ⟨i, Nat.le_refl _, by omega, hq⟩
    | false =>
      rw [cond_false, firstI_none]
      constructor
      · intro h j h1 h2
        rcases Nat.eq_or_lt_of_le h1 with rfl | h3
        · exact hq
        · exact h j h3 (by omega)
      · exact fun h j h1 h2 => h j (by omega) (by omega)
theorem ZX {q : Nat → Bool} : ∀ {k i j : Nat}, Zr q i k = some j → i ≤ j ∧ j < i + k ∧ q j = true ∧ ∀ t, i ≤ t → t < j → q t = false
  | 0, i, j, h => by simp [Zr] at h
  | k + 1, i, j, h => by
    rw [Zr] at h
    cases hq : q i with
    | true =>
      rw [hq, cond_true] at h
      cases h
      exact ⟨Nat.le_refl _, by omega, hq, fun t h1 h2 => by omega⟩
    | false =>
      rw [hq, cond_false] at h
      obtain ⟨a, b, c, d⟩ := ZX h
      refine ⟨by omega, by omega, c, fun t h1 h2 => ?_⟩
      rcases Nat.eq_or_lt_of_le h1 with rfl | h3
      · exact hq
      · exact d t h3 h2
def lbN (nm : V → List V) (l : List V) (t : List V) : Nat := (l.takeWhile fun x => nlt (nm x) t).length
def AscN (nm : V → List V) (l : List V) : Prop := ∀ i, i + 1 < l.length → nlt (nm (rd l i)) (nm (rd l (i + 1))) = true
theorem AscN.lt {nm : V → List V} {l : List V} (h : AscN nm l) : ∀ {j i : Nat}, i < j → j < l.length → nlt (nm (rd l i)) (nm (rd l j)) = true
  | 0, i, h1, _ => by omega
  | j + 1, i, h1, h2 => by
    rcases Nat.eq_or_lt_of_le (Nat.le_of_lt_succ h1) with rfl | h3
    · exact h i h2
    · exact ZiI (h.lt h3 (by omega)) (h j h2)
theorem ZdT {l : List V} {i : Nat} (h : i < l.length) : rd l i = l[i] := by simp [rd, List.getD, h]
theorem Zhq {l : List V} {p : V → Bool} : (∀ i, i < (l.takeWhile p).length → p (rd l i) = true) ∧ ((l.takeWhile p).length < l.length → p (rd l (l.takeWhile p).length) = false) ∧ (l.takeWhile p).length ≤ l.length := by
  induction l with
  | nil => simp
  | cons x l ih =>
    obtain ⟨h1, h2, h3⟩ := ih
    rw [List.takeWhile_cons]
    cases hp : p x with
    | false => simp [rd, hp]
    | true =>
      simp only [if_true, List.length_cons]
      refine ⟨fun i hi => ?_, fun hlt => ?_, by omega⟩
      · cases i with
        | zero => simpa [rd] using hp
        | succ i => exact h1 i (by omega)
      · exact h2 (by omega)
theorem Zhr (nm : V → List V) (l : List V) (t : List V) : lbN nm l t ≤ l.length := (Zhq (l := l)).2.2
theorem ZgE {nm : V → List V} {l : List V} (h : AscN nm l) (t : List V) : ∀ i, i < l.length → nlt (nm (rd l i)) t = decide (i < lbN nm l t) := by
  intro i hi
  obtain ⟨h1, h2, h3⟩ := Zhq (l := l) (p := fun x => nlt (nm x) t)
  by_cases hc : i < lbN nm l t
  · rw [decide_eq_true hc]; exact h1 i hc
  · rw [decide_eq_false hc]
    have h2 := h2 (by unfold lbN at hc; omega)
    rcases Nat.eq_or_lt_of_le (Nat.le_of_not_lt hc) with e | hlt
    · rw [← e]; exact h2
    · have hl : nlt (nm (rd l (lbN nm l t))) (nm (rd l i)) = true := h.lt hlt hi
      cases hh : nlt (nm (rd l i)) t with
      | false => rfl
      | true => have := ZiI hl hh; rw [show nlt (nm (rd l (lbN nm l t))) t = false from h2] at this; cases this
def Zcv (nm : V → List V) (l : List V) (t : List V) : Bool := decide (lbN nm l t < l.length) && neq (nm (rd l (lbN nm l t))) t
theorem Zna {nm : V → List V} {l : List V} (h : AscN nm l) (t : List V) : Zr (fun i => neq (nm (rd l i)) t) 0 l.length = bif Zcv nm l t then some (lbN nm l t) else none := by
  have hs := ZgE h t
  have hle := Zhr nm l t
  cases hf : Zr (fun i => neq (nm (rd l i)) t) 0 l.length with
  | none =>
    rw [firstI_none] at hf
    have : Zcv nm l t = false := by
      unfold Zcv
      by_cases hc : lbN nm l t < l.length
      · rw [hf _ (by omega) (by omega)]; simp
      · simp [hc]
    rw [this]; rfl
  | some j =>
    obtain ⟨-, hj, hq, hb⟩ := ZX hf
    have hj : j < l.length := by omega
    have hnl : nlt (nm (rd l j)) t = false := by
      cases hh : nlt (nm (rd l j)) t with
      | false => rfl
      | true => rw [Zi7 hh] at hq; cases hq
    rw [hs j hj, decide_eq_false_iff_not] at hnl
    have hjl : j = lbN nm l t := by
      rcases Nat.eq_or_lt_of_le (Nat.le_of_not_lt hnl) with e | hlt
      · exact e.symm
      · have := h.lt hlt hj
        rw [Zn3 hq, hs _ (by omega), decide_eq_true_eq] at this
        omega
    have : Zcv nm l t = true := by
      unfold Zcv
      rw [← hjl]; simp [hj, hq]
    rw [this, hjl]; rfl
end Go.Eng
namespace Go.Eng
section
variable {P : Program} {tab : Tab}
theorem RowT.soft {w : World} {ok : Nat → Prop} {T : TypeId} {els : List V} {v : Value} {nest : List Nat} (h : RowT tab w ok T true els v nest) : RowT tab w (fun g => ok g ∨ g ∈ nest) T false els v [] := by
  obtain ⟨ty, xs, ht, hr, hs, he⟩ := h
  rcases he with ⟨-, F, rfl, he⟩ | ⟨ho, -⟩
  · exact ⟨ty, xs, ht, hr, hs, .inr ⟨rfl, rfl, fun i j hi hj => (he i j hi hj).tree fun g hg => .inr (mem_flatF.2 ⟨i, hi, j, hj, hg⟩)⟩⟩
  · cases ho
theorem Zk8 {w w' : World} {ok : Nat → Prop} {args args' : List V} {vals : List Value} {t n m n' : List Nat} {r : V × List V} {val : Value}
    (h : Zky tab w (fun g => ok g ∨ g ∈ m) args vals t n r val w') (hn : ∀ g, g ∈ n ∨ g ∈ m → g ∈ n')
    (hO : ∀ (R : V → Value → List Nat → List Nat → Prop) ot on, OutL R (Zbo args vals) r.2 ot on → OutL R (Zbo args' vals) r.2 ot on) : Zky tab w ok args' vals t n' r val w' := by
  obtain ⟨rt, rn, ot, on, h1, h2, h3, h4, h5, h6, h7⟩ := h
  have hk : ∀ g, (((ok g ∨ g ∈ m) ∨ g ∈ t ++ n ∨ w.heap.size ≤ g) ∧ g < w'.heap.size ∧ g ∉ ot ++ rt) → ((ok g ∨ g ∈ t ++ n' ∨ w.heap.size ≤ g) ∧ g < w'.heap.size ∧ g ∉ ot ++ rt) := by
    rintro g ⟨a, b, c⟩
    refine ⟨?_, b, c⟩
    rcases a with (a | a) | a | a
    · exact .inl a
    · exact .inr (.inl (List.mem_append_right _ (hn g (.inr a))))
    · rcases List.mem_append.1 a with a | a
      · exact .inr (.inl (List.mem_append_left _ a))
      · exact .inr (.inl (List.mem_append_right _ (hn g (.inl a))))
    · exact .inr (.inr a)
  refine ⟨rt, rn, ot, on, h1.keep hk, hO _ _ _ (h2.mono fun y _ v t n hy => hy.keep hk), h3, h4, fun g hg => ?_, h6, h7⟩
  rcases h5 g hg with a | a
  · rcases List.mem_append.1 a with a | a
    · exact .inl (List.mem_append_left _ a)
    · exact .inl (List.mem_append_right _ (hn g (.inl a)))
  · exact .inr a
theorem Zk9 {R : V → Value → List Nat → List Nat → Prop} {a b a' b' : V} {v u : Value} {ot on : List Nat} (h : OutL R [(a, v), (b, u)] [.dead, .dead] ot on) : OutL R [(a', v), (b', u)] [.dead, .dead] ot on := by
  cases h with | cons h1 h2 h3 =>
  cases h3 with | cons h4 h5 h6 =>
  cases h6
  exact .cons trivial h2 (.cons trivial h5 .nil)
theorem Znb {f : FuncId} {T : TypeId} {ty : Ty} {o1 o2 : Bool} {l x r : List V} {i : Int} (ht : tab T = some ty) (hI : ZhV P f T ty.kinds.length ty.bytes) (hv : Zfh ty.bytes l i x = some r) :
    SumOk P tab f [.rr T o1 l, .int .i64 i, .rr T o2 x] (.rr T (o1 && o2) r, [.dead, .dead]) := by
  have e0 := Zlz (P := P) (own := false) ht hI hv
  have e1 := Zlz (P := P) (own := true) ht hI hv
  cases o1 <;> cases o2
  · exact e0
  · intro w ok vals t n hrq hnd hok hlt
    cases hrq with | @cons _ v t1 n1 _ vs1 ts1 ns1 hx hxs =>
    cases hxs with | @cons _ v2 t2 n2 _ vs2 ts2 ns2 hx2 hxs =>
    cases hxs with | @cons _ v3 t3 n3 _ vs3 ts3 ns3 hx3 hxs =>
    cases hxs
    obtain ⟨hrow3, rfl⟩ := Zk7 hx3
    have hI1 : RqL (Rq2 tab w (fun g => ok g ∨ g ∈ n3)) [.rr T false l, .int .i64 i, .rr T false x] [v, v2, v3] (t1 ++ (t2 ++ (Zp v3 ++ []))) (n1 ++ (n2 ++ ([] ++ []))) :=
      .cons (hx.keep fun _ h => .inl h) (.cons (hx2.keep fun _ h => .inl h) (.cons (.one (.row hrow3.soft)) .nil))
    obtain ⟨hd1, hd2, hd3⟩ := List.nodup_append.1 hnd
    have hsub : (n1 ++ (n2 ++ (([] : List Nat) ++ []))).Sublist (n1 ++ (n2 ++ (n3 ++ []))) := (List.Sublist.refl _).append ((List.Sublist.refl _).append ((List.nil_sublist _).append (List.Sublist.refl _)))
    refine Calls.mono (e0 w (fun g => ok g ∨ g ∈ n3) [v, v2, v3] _ _ hI1 (((List.Sublist.refl _).append hsub).nodup hnd) (fun g hg => ?_) fun g hg => hlt g (((List.Sublist.refl _).append hsub).mem hg)) ?_
    · rcases hg with hg | hg
      · exact hok g hg
      · have hm : g ∈ n1 ++ (n2 ++ (n3 ++ [])) := by simp [hg]
        exact ⟨hlt g (List.mem_append_right _ hm), fun ht' => hd3 g ht' g hm rfl⟩
    · rintro e w' ⟨val, he, ha⟩
      exact ⟨val, he, Zk8 ha (n' := n1 ++ (n2 ++ (n3 ++ []))) (fun g hg => hg.elim (fun a => hsub.mem a) fun a => by simp [a]) fun R ot on h => Zk9 h⟩
  · intro w ok vals t n hrq hnd hok hlt
    cases hrq with | @cons _ v t1 n1 _ vs1 ts1 ns1 hx hxs =>
    cases hxs with | @cons _ v2 t2 n2 _ vs2 ts2 ns2 hx2 hxs =>
    cases hxs with | @cons _ v3 t3 n3 _ vs3 ts3 ns3 hx3 hxs =>
    cases hxs
    obtain ⟨hrow, rfl⟩ := Zk7 hx
    have hI1 : RqL (Rq2 tab w (fun g => ok g ∨ g ∈ n1)) [.rr T false l, .int .i64 i, .rr T false x] [v, v2, v3] (Zp v ++ (t2 ++ (t3 ++ []))) ([] ++ (n2 ++ (n3 ++ []))) :=
      .cons (.one (.row hrow.soft)) (.cons (hx2.keep fun _ h => .inl h) (.cons (hx3.keep fun _ h => .inl h) .nil))
    obtain ⟨hd1, hd2, hd3⟩ := List.nodup_append.1 hnd
    have hsub : (([] : List Nat) ++ (n2 ++ (n3 ++ []))).Sublist (n1 ++ (n2 ++ (n3 ++ []))) := (List.nil_sublist _).append (List.Sublist.refl _)
    refine Calls.mono (e0 w (fun g => ok g ∨ g ∈ n1) [v, v2, v3] _ _ hI1 (((List.Sublist.refl _).append hsub).nodup hnd) (fun g hg => ?_) fun g hg => hlt g (((List.Sublist.refl _).append hsub).mem hg)) ?_
    · rcases hg with hg | hg
      · exact hok g hg
      · have hm : g ∈ n1 ++ (n2 ++ (n3 ++ [])) := List.mem_append_left _ hg
        exact ⟨hlt g (List.mem_append_right _ hm), fun ht' => hd3 g ht' g hm rfl⟩
    · rintro e w' ⟨val, he, ha⟩
      exact ⟨val, he, Zk8 ha (n' := n1 ++ (n2 ++ (n3 ++ []))) (fun g hg => hg.elim (fun a => hsub.mem a) fun a => List.mem_append_left _ a) fun R ot on h => Zk9 h⟩
  · exact e1
def enIns2 (hB : Base P tab) {f : FuncId} {fn : Func} (hf : P.funcs[f]? = some fn) (hb : (!(fn.name == "runtime.NumGoroutine") && fn.body.isSome) = true) (T : TypeId) {ty : Ty} (ht : tab T = some ty) (o1 o2 : Bool) (bytes : Nat) (hbytes : ty.bytes = bytes) (hI : ZhV P f T ty.kinds.length ty.bytes) (par : List (Option TypeId)) : En P tab :=
  { f := f
    s := fun a => bif Zbq [.one (.rr T o1), .one (.int .i64), .one (.rr T o2)] a then some ((Zfh bytes (rd a 0).L (rd a 1).I (rd a 2).L).isSome, (V.rr T (o1 && o2) ((Zfh bytes (rd a 0).L (rd a 1).I (rd a 2).L).getD default), [V.dead, V.dead])) else none
    ok := by
      intro args r h
      cases hs : Zbq [.one (.rr T o1), .one (.int .i64), .one (.rr T o2)] args with
      | false => rw [hs] at h; cases h
      | true =>
        rw [hs] at h
        simp only [cond_true, Option.some.injEq, Prod.mk.injEq] at h
        obtain ⟨h1, h2⟩ := h
        obtain ⟨x, hx⟩ := Option.isSome_iff_exists.1 h1
        rw [hx] at h2
        have ha := Zdi (pre := []) hs
        simp only [List.nil_append, List.length_nil, Zdy, S2.mk, S1.mk] at ha
        rw [← ha, ← h2]
        subst hbytes
        exact Znb ht hI hx
    en := Zcj hf hb, par := par, wr := true }
end
end Go.Eng
open Go Go.Eng
namespace Go.Eng.R
def chunks : List (List (Option Ty)) := [
  [none,
   some ⟨[.fn], false, none, [], 8⟩,
   some ⟨[.int .i64], false, none, [], 8⟩,
   some ⟨[.int .i64], false, none, [], 8⟩,
   some ⟨[.bool], false, none, [], 1⟩,
   some ⟨[.int .u8], false, none, [], 1⟩,
   some ⟨[.int .u8], false, none, [], 1⟩,
   some ⟨[.int .i64, .int .i64, .bool, .int .u8], true, none, [(0, 2), (1, 3), (2, 4), (3, 6)], 24⟩,
   some ⟨[.int .i64, .int .i64, .bool, .int .u8], true, none, [(0, 2), (1, 3), (2, 4), (3, 6)], 24⟩,
   some ⟨[.str], false, none, [], 16⟩,
   some ⟨[.str], false, none, [], 16⟩,
   some ⟨[.str], false, none, [], 16⟩,
   some ⟨[.int .u64], false, none, [], 8⟩,
   some ⟨[.str, .int .u64], true, none, [(0, 9), (1, 12)], 24⟩,
   some ⟨[.str, .int .u64], true, none, [(0, 9), (1, 12)], 24⟩,
   some ⟨[.ptr], false, none, [], 8⟩],
  [some ⟨[.ptr], false, none, [], 8⟩,
   some ⟨[.ptr], false, none, [], 8⟩,
   some ⟨[.ptr], true, none, [(0, 17)], 8⟩,
   some ⟨[.ptr], true, none, [(0, 17)], 8⟩,
   none,
   some ⟨[.int .i32], false, none, [], 4⟩,
   some ⟨[.sl 5], false, some 5, [], 24⟩,
   some ⟨[.sl 55], false, some 55, [], 24⟩,
   some ⟨[.sl 98], false, some 98, [], 24⟩,
   some ⟨[.sl 53], false, some 53, [], 24⟩,
   some ⟨[.sl 57], false, some 57, [], 24⟩,
   some ⟨[.int .i64, .sl 55, .sl 98, .int .i64, .sl 53, .sl 57], true, none, [(0, 3), (1, 23), (2, 24), (3, 3), (4, 25), (5, 26)], 112⟩,
   some ⟨[.int .i64, .sl 55, .sl 98, .int .i64, .sl 53, .sl 57], true, none, [(0, 3), (1, 23), (2, 24), (3, 3), (4, 25), (5, 26)], 112⟩,
   some ⟨[.int .i64, .sl 5, .sl 5, .int .i64], true, none, [(0, 3), (1, 22), (2, 22), (3, 3)], 64⟩,
   some ⟨[.int .i64, .sl 5, .sl 5, .int .i64], true, none, [(0, 3), (1, 22), (2, 22), (3, 3)], 64⟩,
   some ⟨[.int .i64, .int .i64, .int .i64, .sl 5, .sl 5, .int .i64], true, none, [(0, 3), (1, 3), (2, 30)], 80⟩],
  [some ⟨[.int .i64, .int .i64, .int .i64, .sl 5, .sl 5, .int .i64], true, none, [(0, 3), (1, 3), (2, 30)], 80⟩,
   none,
   some ⟨[.fn], false, none, [], 8⟩,
   some ⟨[.int .i64, .int .i64], true, none, [(0, 3), (1, 3)], 16⟩,
   some ⟨[.int .i64, .int .i64], true, none, [(0, 3), (1, 3)], 16⟩,
   none,
   some ⟨[.fn], false, none, [], 8⟩,
   some ⟨[.fn], false, none, [], 8⟩,
   some ⟨[.int .i64, .bool, .sl 5], true, none, [(0, 3), (1, 4), (2, 22)], 40⟩,
   some ⟨[.int .i64, .bool, .sl 5], true, none, [(0, 3), (1, 4), (2, 22)], 40⟩,
   some ⟨[.fn], false, none, [], 8⟩,
   some ⟨[.fn], false, none, [], 8⟩,
   some ⟨[.fn], false, none, [], 8⟩,
   none,
   some ⟨[.fn], false, none, [], 8⟩,
   none],
  [some ⟨[.fn], false, none, [], 8⟩,
   some ⟨[.fn], false, none, [], 8⟩,
   some ⟨[.sl 22], false, some 22, [], 24⟩,
   some ⟨[.fn], false, none, [], 8⟩,
   some ⟨[.int .i64, .bool], true, none, [(0, 3), (1, 4)], 16⟩,
   some ⟨[.int .i64, .bool], true, none, [(0, 3), (1, 4)], 16⟩,
   some ⟨[.sl 5, .sl 5, .int .i64, .int .i64], true, none, [(0, 22), (1, 22), (2, 3), (3, 3)], 64⟩,
   some ⟨[.sl 5, .sl 5, .int .i64, .int .i64], true, none, [(0, 22), (1, 22), (2, 3), (3, 3)], 64⟩,
   some ⟨[.int .i64, .int .i64, .int .i64, .int .i64], true, none, [(0, 3), (1, 3), (2, 36)], 32⟩,
   some ⟨[.int .i64, .int .i64, .int .i64, .int .i64], true, none, [(0, 3), (1, 3), (2, 36)], 32⟩,
   none,
   some ⟨[.fn], false, none, [], 8⟩,
   some ⟨[.sl 9], false, some 9, [], 24⟩,
   some ⟨[.fn], false, none, [], 8⟩,
   some ⟨[.fn], false, none, [], 8⟩,
   some ⟨[.fn], false, none, [], 8⟩],
  [some ⟨[.fn], false, none, [], 8⟩,
   some ⟨[.ptr], false, none, [], 8⟩,
   some ⟨[.fn], false, none, [], 8⟩,
   some ⟨[.fn], false, none, [], 8⟩,
   some ⟨[.fn], false, none, [], 8⟩,
   some ⟨[.fn], false, none, [], 8⟩,
   some ⟨[.fn], false, none, [], 8⟩,
   some ⟨[.fn], false, none, [], 8⟩,
   some ⟨[.fn], false, none, [], 8⟩,
   some ⟨[.sl 78], false, some 78, [], 24⟩,
   some ⟨[.fn], false, none, [], 8⟩,
   some ⟨[.fn], false, none, [], 8⟩,
   some ⟨[.fn], false, none, [], 8⟩,
   some ⟨[.int .i64, .int .i64, .int .i64, .int .i64, .sl 5, .sl 5, .int .i64, .sl 5], true, none, [(0, 3), (1, 3), (2, 3), (3, 30), (7, 22)], 112⟩,
   some ⟨[.int .i64, .int .i64, .int .i64, .int .i64, .sl 5, .sl 5, .int .i64, .sl 5], true, none, [(0, 3), (1, 3), (2, 3), (3, 30), (7, 22)], 112⟩,
   some ⟨[.sl 205], false, some 205, [], 24⟩],
  [some ⟨[.sl 89], false, some 89, [], 24⟩,
   some ⟨[.sl 91], false, some 91, [], 24⟩,
   some ⟨[.sl 136], false, some 136, [], 24⟩,
   some ⟨[.sl 28], false, some 28, [], 24⟩,
   some ⟨[.sl 4], false, some 4, [], 24⟩,
   some ⟨[.bool, .bool, .sl 205, .sl 89, .sl 91, .sl 91, .sl 136, .sl 28, .sl 4, .int .i64, .int .i64], true, none, [(0, 4), (1, 4), (2, 79), (3, 80), (4, 81), (5, 81), (6, 82), (7, 83), (8, 84), (9, 3), (10, 3)], 192⟩,
   some ⟨[.bool, .bool, .sl 205, .sl 89, .sl 91, .sl 91, .sl 136, .sl 28, .sl 4, .int .i64, .int .i64], true, none, [(0, 4), (1, 4), (2, 79), (3, 80), (4, 81), (5, 81), (6, 82), (7, 83), (8, 84), (9, 3), (10, 3)], 192⟩,
   some ⟨[.fn], false, none, [], 8⟩,
   some ⟨[.int .i64, .int .i64, .int .i64, .sl 5, .sl 5, .int .i64, .int .i64, .int .i64, .int .i64, .int .i64], true, none, [(0, 3), (1, 3), (2, 30), (6, 3), (7, 3), (8, 36)], 112⟩,
   some ⟨[.int .i64, .int .i64, .int .i64, .sl 5, .sl 5, .int .i64, .int .i64, .int .i64, .int .i64, .int .i64], true, none, [(0, 3), (1, 3), (2, 30), (6, 3), (7, 3), (8, 36)], 112⟩,
   some ⟨[.int .i64, .int .i64, .sl 5, .int .i64, .int .i64, .int .i64, .bool, .sl 5], true, none, [(0, 3), (1, 3), (2, 22), (3, 3), (4, 3), (5, 41)], 96⟩,
   some ⟨[.int .i64, .int .i64, .sl 5, .int .i64, .int .i64, .int .i64, .bool, .sl 5], true, none, [(0, 3), (1, 3), (2, 22), (3, 3), (4, 3), (5, 41)], 96⟩,
   some ⟨[.fn], false, none, [], 8⟩,
   some ⟨[.fn], false, none, [], 8⟩,
   some ⟨[.fn], false, none, [], 8⟩,
   some ⟨[.fn], false, none, [], 8⟩],
  [some ⟨[.fn], false, none, [], 8⟩,
   some ⟨[.sl 5, .int .i64], true, none, [(0, 22), (1, 3)], 32⟩,
   some ⟨[.sl 5, .int .i64], true, none, [(0, 22), (1, 3)], 32⟩,
   some ⟨[.fn], false, none, [], 8⟩,
   some ⟨[.fn], false, none, [], 8⟩,
   some ⟨[.fn], false, none, [], 8⟩,
   some ⟨[.fn], false, none, [], 8⟩,
   some ⟨[.fn], false, none, [], 8⟩,
   some ⟨[.sl 5, .int .i64, .int .i64], true, none, [(0, 22), (1, 3), (2, 3)], 40⟩,
   some ⟨[.sl 5, .int .i64, .int .i64], true, none, [(0, 22), (1, 3), (2, 3)], 40⟩,
   some ⟨[.fn], false, none, [], 8⟩,
   some ⟨[.sl 3], false, some 3, [], 24⟩,
   some ⟨[.fn], false, none, [], 8⟩,
   some ⟨[.fn], false, none, [], 8⟩,
   some ⟨[.fn], false, none, [], 8⟩,
   some ⟨[.fn], false, none, [], 8⟩],
  [none,
   some ⟨[.fn], false, none, [], 8⟩,
   some ⟨[.fn], false, none, [], 8⟩,
   some ⟨[.fn], false, none, [], 8⟩,
   some ⟨[.fn], false, none, [], 8⟩,
   some ⟨[.fn], false, none, [], 8⟩,
   some ⟨[.fn], false, none, [], 8⟩,
   some ⟨[.fn], false, none, [], 8⟩,
   some ⟨[.fn], false, none, [], 8⟩,
   some ⟨[.ptr], false, none, [], 8⟩,
   some ⟨[.fn], false, none, [], 8⟩,
   some ⟨[.fn], false, none, [], 8⟩,
   some ⟨[.fn], false, none, [], 8⟩,
   some ⟨[.fn], false, none, [], 8⟩,
   some ⟨[.ptr], false, none, [], 8⟩,
   some ⟨[.fn], false, none, [], 8⟩],
  [some ⟨[.sl 133], false, some 133, [], 24⟩,
   some ⟨[.sl 176], false, some 176, [], 24⟩,
   some ⟨[.sl 133, .sl 3, .sl 3, .sl 176, .int .i64, .bool, .bool, .sl 205, .sl 89, .sl 91, .sl 91, .sl 136, .sl 28, .sl 4, .int .i64, .int .i64], true, none, [(0, 128), (1, 107), (2, 107), (3, 129), (4, 3), (5, 86)], 296⟩,
   some ⟨[.sl 133, .sl 3, .sl 3, .sl 176, .int .i64, .bool, .bool, .sl 205, .sl 89, .sl 91, .sl 91, .sl 136, .sl 28, .sl 4, .int .i64, .int .i64], true, none, [(0, 128), (1, 107), (2, 107), (3, 129), (4, 3), (5, 86)], 296⟩,
   some ⟨[.fn], false, none, [], 8⟩,
   some ⟨[.ptr], false, none, [], 8⟩,
   some ⟨[.sl 185], false, some 185, [], 24⟩,
   some ⟨[.int .i64, .int .i64, .int .i64, .sl 185, .int .i64, .int .i64, .int .i64, .int .i64, .sl 4, .sl 3, .sl 3], true, none, [(0, 3), (1, 3), (2, 3), (3, 134), (4, 3), (5, 3), (6, 3), (7, 3), (8, 84), (9, 107), (10, 107)], 152⟩,
   some ⟨[.int .i64, .int .i64, .int .i64, .sl 185, .int .i64, .int .i64, .int .i64, .int .i64, .sl 4, .sl 3, .sl 3], true, none, [(0, 3), (1, 3), (2, 3), (3, 134), (4, 3), (5, 3), (6, 3), (7, 3), (8, 84), (9, 107), (10, 107)], 152⟩,
   some ⟨[.sl 160], false, some 160, [], 24⟩,
   some ⟨[.int .i64, .int .i64, .int .i64, .sl 185, .int .i64, .int .i64, .int .i64, .int .i64, .sl 4, .sl 3, .sl 3, .int .i64, .sl 55, .sl 98, .int .i64, .sl 53, .sl 57, .int .i64, .bool, .sl 160], true, none, [(0, 136), (11, 28), (17, 3), (18, 4), (19, 137)], 304⟩,
   some ⟨[.int .i64, .int .i64, .int .i64, .sl 185, .int .i64, .int .i64, .int .i64, .int .i64, .sl 4, .sl 3, .sl 3, .int .i64, .sl 55, .sl 98, .int .i64, .sl 53, .sl 57, .int .i64, .bool, .sl 160], true, none, [(0, 136), (11, 28), (17, 3), (18, 4), (19, 137)], 304⟩,
   some ⟨[.fn], false, none, [], 8⟩,
   some ⟨[.fn], false, none, [], 8⟩,
   some ⟨[.fn], false, none, [], 8⟩,
   some ⟨[.fn], false, none, [], 8⟩],
  [some ⟨[.fn], false, none, [], 8⟩,
   some ⟨[.int .u64], false, none, [], 8⟩,
   some ⟨[.fn], false, none, [], 8⟩,
   some ⟨[.fn], false, none, [], 8⟩,
   some ⟨[.fn], false, none, [], 8⟩,
   some ⟨[.fn], false, none, [], 8⟩,
   some ⟨[.fn], false, none, [], 8⟩,
   some ⟨[.fn], false, none, [], 8⟩,
   some ⟨[.fn], false, none, [], 8⟩,
   some ⟨[.fn], false, none, [], 8⟩,
   some ⟨[.fn], false, none, [], 8⟩,
   none,
   some ⟨[.fn], false, none, [], 8⟩,
   some ⟨[.fn], false, none, [], 8⟩,
   some ⟨[.fn], false, none, [], 8⟩,
   some ⟨[.sl 5, .int .i64], true, none, [(0, 22), (1, 3)], 32⟩],
  [some ⟨[.sl 5, .int .i64], true, none, [(0, 22), (1, 3)], 32⟩,
   some ⟨[.fn], false, none, [], 8⟩,
   some ⟨[.fn], false, none, [], 8⟩,
   some ⟨[.fn], false, none, [], 8⟩,
   some ⟨[.fn], false, none, [], 8⟩,
   some ⟨[.fn], false, none, [], 8⟩,
   some ⟨[.fn], false, none, [], 8⟩,
   some ⟨[.fn], false, none, [], 8⟩,
   some ⟨[.fn], false, none, [], 8⟩,
   some ⟨[.fn], false, none, [], 8⟩,
   some ⟨[.fn], false, none, [], 8⟩,
   some ⟨[.fn], false, none, [], 8⟩,
   some ⟨[.fn], false, none, [], 8⟩,
   some ⟨[.int .i64, .int .i64, .int .i64, .int .i64, .int .i64, .int .i64, .sl 185, .int .i64, .bool], true, none, [(0, 3), (1, 3), (2, 3), (3, 3), (4, 3), (5, 3), (6, 134), (7, 3), (8, 4)], 88⟩,
   some ⟨[.int .i64, .int .i64, .int .i64, .int .i64, .int .i64, .int .i64, .sl 185, .int .i64, .bool], true, none, [(0, 3), (1, 3), (2, 3), (3, 3), (4, 3), (5, 3), (6, 134), (7, 3), (8, 4)], 88⟩,
   some ⟨[.int .i64, .int .i64, .int .i64, .int .i64, .int .i64, .int .i64, .int .i64, .sl 185, .int .i64, .bool, .int .i64, .int .i64, .int .i64, .int .i64, .sl 5, .sl 5, .int .i64, .int .i64, .int .i64, .int .i64, .int .i64], true, none, [(0, 3), (1, 174), (10, 3), (11, 32), (17, 3), (18, 3), (19, 36)], 216⟩],
  [some ⟨[.int .i64, .int .i64, .int .i64, .int .i64, .int .i64, .int .i64, .int .i64, .sl 185, .int .i64, .bool, .int .i64, .int .i64, .int .i64, .int .i64, .sl 5, .sl 5, .int .i64, .int .i64, .int .i64, .int .i64, .int .i64], true, none, [(0, 3), (1, 174), (10, 3), (11, 32), (17, 3), (18, 3), (19, 36)], 216⟩,
   some ⟨[.fn], false, none, [], 8⟩,
   some ⟨[.fn], false, none, [], 8⟩,
   some ⟨[.ptr], false, none, [], 8⟩,
   some ⟨[.fn], false, none, [], 8⟩,
   some ⟨[.fn], false, none, [], 8⟩,
   some ⟨[.ptr], false, none, [], 8⟩,
   some ⟨[.fn], false, none, [], 8⟩,
   some ⟨[.int .i64, .int .i64, .int .i64, .int .i64, .sl 5, .sl 5, .int .i64], true, none, [(0, 3), (1, 32)], 88⟩,
   some ⟨[.int .i64, .int .i64, .int .i64, .int .i64, .sl 5, .sl 5, .int .i64], true, none, [(0, 3), (1, 32)], 88⟩,
   some ⟨[.fn], false, none, [], 8⟩,
   some ⟨[.fn], false, none, [], 8⟩,
   some ⟨[.fn], false, none, [], 8⟩,
   some ⟨[.fn], false, none, [], 8⟩,
   some ⟨[.fn], false, none, [], 8⟩,
   some ⟨[.fn], false, none, [], 8⟩],
  [some ⟨[.fn], false, none, [], 8⟩,
   some ⟨[.fn], false, none, [], 8⟩,
   some ⟨[.sl 174], false, some 174, [], 24⟩,
   some ⟨[.int .i64, .int .i64, .int .i64, .sl 185, .int .i64, .int .i64, .int .i64, .int .i64, .sl 4, .sl 3, .sl 3, .sl 174], true, none, [(0, 136), (11, 194)], 176⟩,
   some ⟨[.int .i64, .int .i64, .int .i64, .sl 185, .int .i64, .int .i64, .int .i64, .int .i64, .sl 4, .sl 3, .sl 3, .sl 174], true, none, [(0, 136), (11, 194)], 176⟩,
   some ⟨[.fn], false, none, [], 8⟩,
   some ⟨[.fn], false, none, [], 8⟩,
   some ⟨[.fn], false, none, [], 8⟩,
   some ⟨[.fn], false, none, [], 8⟩,
   some ⟨[.fn], false, none, [], 8⟩,
   some ⟨[.fn], false, none, [], 8⟩,
   some ⟨[.fn], false, none, [], 8⟩,
   some ⟨[.int .i64, .int .i64, .int .i64, .int .i64, .sl 5, .sl 5, .int .i64], true, none, [(0, 3), (1, 32)], 88⟩,
   some ⟨[.int .i64, .int .i64, .int .i64, .int .i64, .sl 5, .sl 5, .int .i64], true, none, [(0, 3), (1, 32)], 88⟩,
   some ⟨[.fn], false, none, [], 8⟩,
   some ⟨[.fn], false, none, [], 8⟩],
  [some ⟨[.fn], false, none, [], 8⟩,
   some ⟨[.fn], false, none, [], 8⟩,
   some ⟨[.ptr, .ptr, .ptr, .str], true, none, [(0, 17), (1, 17), (2, 17), (3, 9)], 40⟩,
   some ⟨[.ptr, .ptr, .ptr, .str], true, none, [(0, 17), (1, 17), (2, 17), (3, 9)], 40⟩,
   none,
   none,
   none,
   some ⟨[.int .u32], false, none, [], 4⟩,
   some ⟨[.int .u8], false, none, [], 1⟩,
   some ⟨[.int .u8], false, none, [], 1⟩,
   some ⟨[.fn], false, none, [], 8⟩,
   some ⟨[.ptr], false, none, [], 8⟩,
   some ⟨[.int .i32], false, none, [], 4⟩,
   some ⟨[.int .i32], false, none, [], 4⟩,
   some ⟨[.int .u64, .int .u64, .int .u32, .int .u8, .int .u8, .int .u8, .int .u8, .fn, .ptr, .int .i32, .int .i32], true, none, [(0, 12), (1, 12), (2, 215), (3, 216), (4, 5), (5, 5), (6, 217), (7, 218), (8, 219), (9, 220), (10, 221)], 48⟩,
   some ⟨[.int .u64, .int .u64, .int .u32, .int .u8, .int .u8, .int .u8, .int .u8, .fn, .ptr, .int .i32, .int .i32], true, none, [(0, 12), (1, 12), (2, 215), (3, 216), (4, 5), (5, 5), (6, 217), (7, 218), (8, 219), (9, 220), (10, 221)], 48⟩],
  [none,
   none,
   none,
   none,
   none,
   none,
   none,
   none,
   none,
   none,
   none,
   none,
   none,
   none,
   none,
   none]]
def tab : Tab := tabOf chunks
abbrev t_int' : TypeId := 3
abbrev Zc : TypeId := 5
abbrev ZfX : TypeId := 22
abbrev Zj : TypeId := 28
abbrev Zla : TypeId := 32
abbrev Zfi : TypeId := 36
abbrev Zd : TypeId := 53
abbrev Zg : TypeId := 55
abbrev Ze : TypeId := 57
abbrev Zf : TypeId := 98
abbrev Zy : TypeId := 105
def Za (x : V) : V := .agg [.int .i64 (gi x 0), .inl Zg (gl x 1), .inl Zf (gl x 2), .int .i64 (gi x 3), .inl Zd (gl x 4), .inl Ze (gl x 5)]
def ZpW (x : V) : V := .agg [.int .i64 (gi x 0), .inl Zc (gl x 1), .inl Zc (gl x 2), .int .i64 (gi x 3)]
def Zn (x : V) : V := .agg [.int .i64 (gi x 0), .int .i64 (gi x 1), .int .i64 (gi x 2), .inl Zc (gl x 3), .inl Zc (gl x 4), .int .i64 (gi x 5)]
def ZA (x : V) : V := .agg [.int .i64 (gi x 0), .int .i64 (gi x 1)]
def Zb0 (x : V) : V := .agg [.int .i64 (gi x 0), .bool (gb x 1), .inl Zc (gl x 2)]
def ZD (x : V) : V := .agg [.int .i64 (gi x 0), .bool (gb x 1)]
def ZhX (x : V) : V := .agg [.inl Zc (gl x 0), .inl Zc (gl x 1), .int .i64 (gi x 2), .int .i64 (gi x 3)]
def ZfP (x : V) : V := .agg [.int .i64 (gi x 0), .int .i64 (gi x 1), .int .i64 (gi x 2), .int .i64 (gi x 3)]
def Zn5 (x : V) : V := .agg [.inl Zc (gl x 0), .int .i64 (gi x 1)]
def Zb (x : V) : V := .agg [.inl Zc (gl x 0), .int .i64 (gi x 1), .int .i64 (gi x 2)]
abbrev vi (n : Int) : V := .int .i64 n
abbrev vs (k : Nat) (T : TypeId) : V := .sl k T 0 none
abbrev Zcb : Bool := true
def noL : Loops := ⟨fun _ => [], fun _ => [], fun _ => [], Zbw [], [], fun _ => []⟩
theorem Zao {cfg : Cfg} {fn : Func} : ZI cfg noL (ZY fn) := GoodAll.ok (l := []) GoodAll.nil rfl
end Go.Eng.R
