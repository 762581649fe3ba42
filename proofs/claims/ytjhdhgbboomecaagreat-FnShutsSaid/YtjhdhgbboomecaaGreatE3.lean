/- An own evaluator of the program's form, proved sound, and what it says of this law's functions: part 3. -/
import Derived.Test.YtjhdhgbboomecaaGreatE2
import Derived.ChangeSame
import Derived.ChangeStays
import Derived.Deep.RegionLaw
import Derived.Handed
import Derived.Laws.Externs
import Derived.Laws.IdiomCopy
import Derived.Laws.NewBlocks
import Derived.Lib.AppendZeros
import Derived.Lib.AppendZerosOnto
import Derived.Lib.Bytealg
import Derived.Lib.BytesEntry
import Derived.Lib.Overlaps
import Derived.ReadAgain
import Derived.Test.YtjhdhgbboomecaaGreatProg
set_option linter.unusedVariables false
namespace Go.Eng
open Go.ChangeShapes Go.WideShapes
inductive Wt (tab : Tab) : Ck → V → Prop where
  | int (k : IntKind) (n : Int) : (Lit.int k n).wf = true → Wt tab (.int k) (.int k n)
  | bool (b : Bool) : Wt tab .bool (.bool b)
  | str (s : ByteArray) : s.size ≤ 9223372036854775807 → Wt tab .str (.str (Z6 s))
  | sl (T : TypeId) (ty : Ty) (l : List V) : tab T = some ty → l.length ≤ 9223372036854775807 → (∀ i, i < l.length → ZbQ ty (l.getD i .dead)) →
      (∀ i j, i < l.length → j < ty.kinds.length → Wt tab (ty.kinds.getD j .other) ((l.getD i .dead).cell j)) → Wt tab (.sl T) (.inl T l)
def WtT (tab : Tab) (T : TypeId) (x : V) : Prop := ∃ ty, tab T = some ty ∧ ZbQ ty x ∧ ∀ j, j < ty.kinds.length → Wt tab (ty.kinds.getD j .other) (x.cell j)
theorem Wt.kindOk {tab : Tab} {k : Ck} {x : V} (h : Wt tab k x) : kindOk k x := by
  cases h <;> simp [Eng.kindOk]
def ZfA (tab : Tab) (T : TypeId) : List Ck := match tab T with
  | some ty => ty.kinds
  | none => []
def Zi6 (P : Program) (tab : Tab) (R : List TypeId) : Nat → List Field → Bool
  | _, [] => true
  | o, f :: r => R.contains f.type && (decide (f.offset = o) && (decide (P.cellsOf f.type = (ZfA tab f.type).length) && Zi6 P tab R (o + (ZfA tab f.type).length) r))
def Zk0 (P : Program) (tab : Tab) (R : List TypeId) (t : TypeId) : Bool :=
  match tab t with
  | none => false
  | some ty => decide (P.cellsOf t = ty.kinds.length) && match P.underlying t with
    | some (.int k) => !ty.agg && decide (ty.kinds = [.int k])
    | some .bool => !ty.agg && decide (ty.kinds = [.bool])
    | some .string => !ty.agg && decide (ty.kinds = [.str])
    | some (.slice e) => !ty.agg && (decide (ty.kinds = [.sl e]) && R.contains e)
    | some (.struct fs) => ty.agg && (Zi6 P tab R 0 fs.toList && decide (ty.kinds = fs.toList.flatMap fun f => ZfA tab f.type))
    | _ => false
def Zk1 (P : Program) (tab : Tab) (R : List TypeId) : Bool := R.all (Zk0 P tab R)
section
variable {H : Type} {enc : TypeId × Value → H} {P : Program} {tab : Tab} {w : World} {sp : Nat → Bool} {held : Bool}
def CellsIs (tab : Tab) (w : World) (ks : List Ck) (cs : List Value) (ys : List V) : Prop :=
  ys.length = ks.length ∧ cs.length = ks.length ∧ (∀ j, j < ks.length → Rp tab w (· < w.heap.size) (ys.getD j .dead) (cs.getD j undef)) ∧ ∀ j, j < ks.length → Wt tab (ks.getD j .other) (ys.getD j .dead)
theorem CellsIs.one {k : Ck} {v : Value} {y : V} (h1 : Rp tab w (· < w.heap.size) y v) (h2 : Wt tab k y) : CellsIs tab w [k] [v] [y] := by
  refine ⟨rfl, rfl, fun j hj => ?_, fun j hj => ?_⟩ <;>
  · have : j = 0 := by simpa using hj
    subst this
    assumption
theorem CellsIs.append {k1 k2 : List Ck} {c1 c2 : List Value} {y1 y2 : List V} (h1 : CellsIs tab w k1 c1 y1) (h2 : CellsIs tab w k2 c2 y2) : CellsIs tab w (k1 ++ k2) (c1 ++ c2) (y1 ++ y2) := by
  obtain ⟨a1, a2, a3, a4⟩ := h1
  obtain ⟨b1, b2, b3, b4⟩ := h2
  refine ⟨by simp [a1, b1], by simp [a2, b2], fun j hj => ?_, fun j hj => ?_⟩
  · simp only [List.length_append] at hj
    by_cases h : j < k1.length
    · have e1 : (y1 ++ y2).getD j .dead = y1.getD j .dead := by simp [List.getD, List.getElem?_append_left (show j < y1.length by omega)]
      have e2 : (c1 ++ c2).getD j undef = c1.getD j undef := by simp [List.getD, List.getElem?_append_left (show j < c1.length by omega)]
      rw [e1, e2]; exact a3 j h
    · have e1 : (y1 ++ y2).getD j .dead = y2.getD (j - k1.length) .dead := by simp [List.getD, List.getElem?_append_right (show y1.length ≤ j by omega), a1]
      have e2 : (c1 ++ c2).getD j undef = c2.getD (j - k1.length) undef := by simp [List.getD, List.getElem?_append_right (show c1.length ≤ j by omega), a2]
      rw [e1, e2]; exact b3 _ (by omega)
  · simp only [List.length_append] at hj
    by_cases h : j < k1.length
    · have e1 : (y1 ++ y2).getD j .dead = y1.getD j .dead := by simp [List.getD, List.getElem?_append_left (show j < y1.length by omega)]
      have e2 : (k1 ++ k2).getD j .other = k1.getD j .other := by simp [List.getD, List.getElem?_append_left (show j < k1.length by omega)]
      rw [e1, e2]; exact a4 j h
    · have e1 : (y1 ++ y2).getD j .dead = y2.getD (j - k1.length) .dead := by simp [List.getD, List.getElem?_append_right (show y1.length ≤ j by omega), a1]
      have e2 : (k1 ++ k2).getD j .other = k2.getD (j - k1.length) .other := by simp [List.getD, List.getElem?_append_right (show k1.length ≤ j by omega)]
      rw [e1, e2]; exact b4 _ (by omega)
theorem CellsIs.shape {T : TypeId} {ty : Ty} (hty : TyOk P tab T ty) {cs : List Value} {ys : List V} (h : CellsIs tab w ty.kinds cs ys) : ZbQ ty (Eng.mk ty.agg ys) ∧ (Eng.mk ty.agg ys).cells = ys :=
  ZhF hty h.1 fun j hj => (h.2.2.2 j hj).kindOk
theorem ZjG {R : List TypeId} {n : Nat} (ih : ∀ t ∈ R, ∀ cs x, DataW.trod enc P w 0 sp held n t cs = some x → ∃ ty ys, tab t = some ty ∧ CellsIs tab w ty.kinds cs ys) (cs : List Value) :
    ∀ (fs : List Field) (o : Nat) (xs : List (DataW H × List MemPlace)), Zi6 P tab R o fs = true →
      (fs.mapM fun f => DataW.trod enc P w 0 sp held n f.type ((cs.drop f.offset).take (P.cellsOf f.type))) = some xs →
      ∃ ys, CellsIs tab w (fs.flatMap fun f => ZfA tab f.type) ((cs.drop o).take ((fs.flatMap fun f => ZfA tab f.type).length)) ys
  | [], o, xs, _, _ => ⟨[], rfl, by simp, fun j hj => by simp at hj, fun j hj => by simp at hj⟩
  | f :: fs, o, xs, hB, hx => by
    simp only [Zi6, Bool.and_eq_true, decide_eq_true_eq, List.contains_iff_mem] at hB
    obtain ⟨h1, h2, h3, h4⟩ := hB
    rw [List.mapM_cons] at hx
    obtain ⟨x, hx1, hx2⟩ := Option.bind_eq_some_iff.1 hx
    obtain ⟨xr, hx3, hx4⟩ := Option.bind_eq_some_iff.1 hx2
    obtain ⟨ty, ys1, e1, c1⟩ := ih _ h1 _ _ hx1
    obtain ⟨ys2, c2⟩ := ZjG ih cs fs _ _ h4 hx3
    have ek : ZfA tab f.type = ty.kinds := by simp [ZfA, e1]
    refine ⟨ys1 ++ ys2, ?_⟩
    rw [h2, h3, ek] at c1
    rw [ek] at c2
    have := c1.append c2
    rw [List.flatMap_cons, ek]
    refine cast ?_ this
    congr 1
    rw [List.length_append]
    rw [← List.drop_drop, List.take_add]
theorem add_zero' (a : Addr) : a.add 0 = a := by simp [Addr.add]
theorem ZlT {a : Addr} (h : a.spot = none) (n : Nat) : a.add n = ⟨a.block, a.off + n, none⟩ := by
  cases a
  simp only at h
  subst h
  unfold Addr.add
  split
  · simp_all
  · rfl
theorem Zk2 (hT : Zx P tab) {R : List TypeId} (hR : Zk1 P tab R = true) : ∀ (n : Nat), ∀ t ∈ R, ∀ (cs : List Value) (x : DataW H × List MemPlace), DataW.trod enc P w 0 sp held n t cs = some x →
    ∃ ty ys, tab t = some ty ∧ CellsIs tab w ty.kinds cs ys
  | 0, t, ht, cs, x, h => by simp [DataW.trod] at h
  | n + 1, t, ht, cs, x, h => by
    have h1 := List.all_eq_true.1 hR t ht
    unfold Zk0 at h1
    split at h1
    · cases h1
    rename_i ty hty
    simp only [Bool.and_eq_true, decide_eq_true_eq] at h1
    obtain ⟨hcells, h1⟩ := h1
    refine ⟨ty, ?_⟩
    have ih := Zk2 hT hR n
    unfold DataW.trod at h
    split at h1
    · rename_i k hu
      simp only [Bool.and_eq_true, decide_eq_true_eq] at h1
      rw [hu] at h
      split at h <;> simp_all
      exact ⟨_, CellsIs.one (.int _ _) (.int _ _ (by rename_i hh; exact h.1.2))⟩
    · rename_i hu
      simp only [Bool.and_eq_true, decide_eq_true_eq] at h1
      rw [hu] at h
      split at h <;> simp_all
      exact ⟨_, CellsIs.one (.bool _) (.bool _)⟩
    · rename_i hu
      simp only [Bool.and_eq_true, decide_eq_true_eq] at h1
      rw [hu] at h
      split at h <;> simp_all
      exact ⟨_, CellsIs.one (.str _ _ rfl) (.str _ (by rename_i hh; have := h.1; unfold maxLen at this; omega))⟩
    · rename_i e hu
      simp only [Bool.and_eq_true, decide_eq_true_eq, List.contains_iff_mem, Bool.not_eq_true'] at h1
      obtain ⟨ha, hk, he⟩ := h1
      rw [hu] at h
      have e1 := List.all_eq_true.1 hR e he
      obtain ⟨ty2, hty2⟩ : ∃ ty2, tab e = some ty2 := by
        unfold Zk0 at e1
        split at e1
        · cases e1
        · rename_i ty2 h2; exact ⟨ty2, h2⟩
      have hsz : P.cellsOf e = ty2.kinds.length := by
        unfold Zk0 at e1
        rw [hty2] at e1
        simp only [Bool.and_eq_true, decide_eq_true_eq] at e1
        exact e1.1
      have hpos := (hT e ty2 hty2).pos
      rw [hk]
      split at h
      case h_7 =>
        exact ⟨_, hty, CellsIs.one (.inl e [] ty2 none 0 0 0 (fun _ _ => undef) hty2 (by simp) (by simp) (by simp) (by simp) (by simp)) (.sl e ty2 [] hty2 (by simp) (by simp) (by simp))⟩
      case h_8 e' a len cap heq =>
        cases heq
        simp only at h
        split at h
        case isFalse => cases h
        rename_i hc
        obtain ⟨-, hlc, hcm⟩ := hc
        obtain ⟨elems, hel, -⟩ := Option.bind_eq_some_iff.1 h
        have hlen : elems.length = len := by simpa using mapM_some_length hel
        have hone : ∀ i, i < len → ∃ csi ys, w.cells? 0 (a.add (i * P.cellsOf e)) (P.cellsOf e) = some csi ∧ CellsIs tab w ty2.kinds csi ys := by
          intro i hi
          have hg := mapM_some_get hel i i (by simp [hi])
          obtain ⟨y, hy⟩ : ∃ y, elems[i]? = some y := ⟨elems[i], by simp [hlen, hi]⟩
          rw [hy] at hg
          obtain ⟨csi, k1, k2⟩ := Option.bind_eq_some_iff.1 hg
          obtain ⟨ty3, ys, k3, k4⟩ := ih e he csi y k2
          obtain rfl : ty2 = ty3 := Option.some.inj (hty2.symm.trans k3)
          exact ⟨csi, ys, k1, k4⟩
        have hfull : ∀ i, ∃ csi ys, i < len → w.cells? 0 (a.add (i * P.cellsOf e)) (P.cellsOf e) = some csi ∧ CellsIs tab w ty2.kinds csi ys := fun i => by
          by_cases hi : i < len
          · obtain ⟨csi, ys, k⟩ := hone i hi; exact ⟨csi, ys, fun _ => k⟩
          · exact ⟨[], [], fun h => absurd h hi⟩
        have hfull' := Classical.axiomOfChoice hfull
        obtain ⟨C, hC⟩ := hfull'
        have hC' := Classical.axiomOfChoice hC
        obtain ⟨Y, hY⟩ := hC'
        let l : List V := (List.range len).map fun i => Eng.mk ty2.agg (Y i)
        have hll : l.length = len := by simp [l]
        have hget : ∀ i, i < len → l.getD i .dead = Eng.mk ty2.agg (Y i) := fun i hi => by simp [l, List.getD, hi]
        have hsh : ∀ i, i < l.length → ZbQ ty2 (l.getD i .dead) := fun i hi => by
          rw [hll] at hi
          rw [hget i hi]; exact ((hY i hi).2.shape (hT e ty2 hty2)).1
        have hcl : ∀ i j, i < len → (l.getD i .dead).cell j = (Y i).getD j .dead := fun i j hi => by
          rw [hget i hi, V.cell, ((hY i hi).2.shape (hT e ty2 hty2)).2]
        have hw0 : ∀ i j, i < len → j < ty2.kinds.length → w.cell? ((a.add (i * ty2.kinds.length)).add j) = some ((C i).getD j undef) := fun i j hi hj => by
          obtain ⟨k1, k2⟩ := hY i hi
          obtain ⟨-, q2, q3⟩ := World.cells?_some k1
          have := q3 j (by omega)
          have hj' : j < (C i).length := by omega
          rw [List.getElem?_eq_getElem hj'] at this
          have e1 : (C i).getD j undef = (C i)[j] := by simp [List.getD, hj']
          rw [e1, ← this, hsz]
        have hspot : 0 < len → a.spot = none := fun h0 => by
          have := hw0 0 0 h0 hpos
          rw [Nat.zero_mul, add_zero', add_zero'] at this
          unfold World.cell? at this
          split at this
          · split at this
            · cases this
            · rename_i hn; simpa using hn
          · cases this
        have hw : ∀ i j, i < len → j < ty2.kinds.length → w.cell? ⟨a.block, a.off + i * ty2.kinds.length + j, none⟩ = some ((C i).getD j undef) ∧ a.block < w.heap.size := fun i j hi hj => by
          have := hw0 i j hi hj
          rw [ZlT (hspot (by omega)), ZlT rfl] at this
          exact ⟨this, World.block_lt_of_cell? (w := w) (a := ⟨a.block, a.off + i * ty2.kinds.length + j, none⟩) (h := this)⟩
        refine ⟨[.inl e l], hty, CellsIs.one ?_ ?_⟩
        · have := Rp.inl (tab := tab) (w := w) (ok := (· < w.heap.size)) e l ty2 (some a) cap a.block a.off (fun i j => (C i).getD j undef) hty2 (by omega) (fun hne => ?_) hsh (fun i j hi hj => ?_) (fun i j hi hj => ?_)
          · rw [hll] at this; exact this
          · have h0 : 0 < len := by rw [← hll]; exact List.length_pos_iff.2 hne
            refine ⟨?_, (hw 0 0 h0 hpos).2⟩
            have := hspot h0
            cases a; simp_all
          · rw [hll] at hi
            exact (hw i j hi hj).1
          · rw [hll] at hi
            rw [hcl i j hi]
            exact (hY i hi).2.2.2.1 j hj
        · refine .sl e ty2 l hty2 (by unfold maxLen at hcm; omega) hsh fun i j hi hj => ?_
          rw [hll] at hi
          rw [hcl i j hi]
          exact (hY i hi).2.2.2.2 j hj
      all_goals first | (cases h; done) | simp_all
    · rename_i fs hu
      simp only [Bool.and_eq_true, decide_eq_true_eq] at h1
      obtain ⟨ha, hf, hk⟩ := h1
      rw [hu] at h
      split at h
      case h_9 fs' heq =>
        cases heq
        split at h
        case isFalse => cases h
        rename_i hcl
        obtain ⟨xs, hx, -⟩ := Option.map_eq_some_iff.1 h
        obtain ⟨ys, hys⟩ := ZjG ih _ fs.toList 0 xs hf hx
        rw [← hk, List.drop_zero, List.take_of_length_le (by omega)] at hys
        exact ⟨ys, hty, hys⟩
      all_goals first | (cases h; done) | simp_all
    · cases h1
theorem arg_read (hT : Zx P tab) {R : List TypeId} (hR : Zk1 P tab R = true) {t : TypeId} (ht : t ∈ R) {v : Value} {d : DataW H} {ps : List MemPlace} (hv : Value.okWide P w .any 0 t v) (h : DataW.Trod enc P w 0 sp held t v d ps) :
    ∃ x, WtT tab t x ∧ Rp tab w (· < w.heap.size) x v := by
  obtain ⟨n, hn⟩ := h
  obtain ⟨ty, ys, e1, e2⟩ := Zk2 hT hR n t ht _ _ hn
  have hty := hT t ty e1
  obtain ⟨s1, s2⟩ := e2.shape hty
  refine ⟨Eng.mk ty.agg ys, ⟨ty, e1, s1, fun j hj => by rw [V.cell, s2]; exact e2.2.2.2 j hj⟩, ?_⟩
  cases ha : ty.agg with
  | true =>
    obtain ⟨fs, hu, -⟩ := hty.agg ha
    unfold Value.okWide at hv
    rw [hu] at hv
    obtain ⟨cs, rfl, -⟩ := hv
    have hl := e2.2.1
    have : Rp tab w (· < w.heap.size) (.agg ys) (.agg cs.toList.toArray) := .agg ys cs.toList (by
      have : cs.toList.length = ty.kinds.length := hl
      rw [this, e2.1]) fun j hj => e2.2.2.1 j (by rw [← e2.1]; exact hj)
    simpa [Eng.mk] using this
  | false =>
    obtain ⟨h1, -, dd, hu, hns, hna⟩ := hty.flat ha
    have hone : v.cells = #[v] := by
      cases v with
      | agg cs =>
        exfalso
        unfold Value.okWide at hv
        rw [hu] at hv
        have hv : Cell.okWide P w .any 0 t (.agg cs) := by
          cases dd <;> first | exact hv | exact absurd rfl (hns _) | exact absurd rfl (hna _ _)
        unfold Cell.okWide at hv
        rw [hu] at hv
        cases dd <;> first | exact hv | (simp [Cell.ok, hu] at hv)
      | _ => rfl
    have h0 := e2.2.2.1 0 (by omega)
    have hyl := e2.1
    obtain ⟨y, rfl⟩ : ∃ y, ys = [y] := by
      match ys, hyl with
      | [y], _ => exact ⟨y, rfl⟩
      | [], h => simp at h; omega
      | _ :: _ :: _, h => simp at h; omega
    rw [hone] at h0
    simpa [Eng.mk] using h0
inductive WtAll (tab : Tab) : List TypeId → List V → Prop where
  | nil : WtAll tab [] []
  | cons {t : TypeId} {ts : List TypeId} {x : V} {xs : List V} : WtT tab t x → WtAll tab ts xs → WtAll tab (t :: ts) (x :: xs)
theorem ZiH (hT : Zx P tab) {R : List TypeId} (hR : Zk1 P tab R = true) : ∀ {ts : List TypeId} {vs : List Value} {ds : List (DataW H)} {ps : List MemPlace}, (∀ t ∈ ts, t ∈ R) →
    (∀ (j : Nat) t v, ts[j]? = some t → vs[j]? = some v → Value.okWide P w .any 0 t v) → DataW.TrodAll enc P w 0 sp held ts vs ds ps →
    ∃ xs, WtAll tab ts xs ∧ RqL (Rq2 tab w (· < w.heap.size)) xs vs [] []
  | [], vs, ds, ps, _, _, h => by
    obtain ⟨rfl, rfl, rfl⟩ := trodAll_nil h
    exact ⟨[], .nil, .nil⟩
  | t :: ts, vs, ds, ps, hR', hv, h => by
    obtain ⟨v, vs1, d, ds1, a, b, rfl, rfl, rfl, h1, h2⟩ := trodAll_cons h
    obtain ⟨x, hx, hr⟩ := arg_read hT hR (hR' t (by simp)) (hv 0 t v rfl rfl) h1
    obtain ⟨xs, hxs, hrs⟩ := ZiH hT hR (fun t ht => hR' t (by simp [ht])) (fun j t v h3 h4 => hv (j + 1) t v (by simpa using h3) (by simpa using h4)) h2
    exact ⟨x :: xs, .cons hx hxs, .cons (t := []) (n := []) (.one (.tree hr)) hrs⟩
end
section
variable {H : Type} {enc : TypeId × Value → H} {P : Program} {tab : Tab} {W W' : World}
theorem ZlU (hk : KeptBut [] W W') {a : Addr} (h : a.block < W.heap.size) : W'.frozen? a = W.frozen? a := by
  unfold World.frozen?
  rw [hk.block a.block h (by simp)]
theorem Zov (hk : KeptBut [] W W') {p : MemPlace} (h : p.block < W.heap.size) : W.sameAt W' p := by
  cases p with
  | cell b off =>
    show W'.cell? _ = W.cell? _
    unfold World.cell?
    rw [hk.block b h (by simp)]
  | map b => exact hk.block b h (by simp)
theorem Zow (hk : KeptBut [] W W') (may : MemPlace → Prop) : W.keptBut W' may := by
  refine ⟨hk.os, hk.output, fun i hi => ?_⟩
  rw [hk.block i hi (by simp)]
  split
  · rename_i c t fr c' t' fr' h1 h2
    rw [h1] at h2; cases h2
    exact ⟨rfl, rfl, rfl, fun _ _ => rfl⟩
  · rename_i es clock es' clock' h1 h2
    rw [h1] at h2; cases h2
    exact .inr ⟨rfl, rfl⟩
  · rfl
theorem Zf7 {T : TypeId → Prop} (K : Kids P T) (hz : ∀ {t e : TypeId}, T t → P.underlying t = some (.slice e) → 0 < P.cellsOf e) {sp' : Nat → Bool} :
    ∀ {ts : List TypeId} {vs : List Value} {ds : List (DataW H)} {ps : List MemPlace}, (∀ t ∈ ts, T t) → DataW.TrodAll enc P W 0 (fun _ => true) true ts vs ds ps → (∀ p ∈ ps, W.sameAt W' p) → (∀ p ∈ ps, sp' p.block = true) → DataW.TrodAll enc P W' 0 sp' true ts vs ds ps
  | [], [], [], _, _, h, _, _ => h
  | t :: _, _ :: _, _ :: _, _, hT, ⟨p, q, ⟨n, h1⟩, h2, e⟩, hs, hp => ⟨p, q, ⟨n, DataW.trod_stays K hz (fun h => by cases h) (hT t (by simp)) h1 (fun x hx => hs x (by rw [e]; exact List.mem_append_left _ hx)) (fun x hx => hp x (by rw [e]; exact List.mem_append_left _ hx))⟩,
      Zf7 K hz (fun t ht => hT t (by simp [ht])) h2 (fun x hx => hs x (by rw [e]; exact List.mem_append_right _ hx)) (fun x hx => hp x (by rw [e]; exact List.mem_append_right _ hx)), e⟩
theorem ZjH {f : Func} {s : ChangeSpec} {apart fresh handsOn again : Bool} {args : Array Value} {v : Value} {ds gs : List (DataW H)} {before pa pv : List MemPlace}
    (hW : DataW.Whole enc P f.params.toList s.vars apart W args.toList ds gs before)
    (hres : ∀ (b : Nat) (sp : Nat → Bool) (hd : Bool), DataW.TrodAll enc P W' b sp hd f.resultTypes.toList (v.resultList f.resultTypes.size) (s.fn H (ds ++ gs)).results [])
    (hargs : ∀ sp : Nat → Bool, (∀ p ∈ before, sp p.block = true) → DataW.TrodAll enc P W' 0 sp true f.params.toList args.toList (s.fn H (ds ++ gs)).args pa)
    (hvars : ∀ sp : Nat → Bool, (∀ p ∈ before, sp p.block = true) → DataW.TrodVars enc P W' sp s.vars (s.fn H (ds ++ gs)).vars pv)
    (hps : before = pa ++ pv) (hk : W.keptBut W' (· ∈ before)) (hfz : ∀ a : Addr, a.block < W.heap.size → W'.frozen? a = W.frozen? a)
    (hok : ∀ (j : Nat) (t : TypeId) (r : Value), f.resultTypes[j]? = some t → (v.resultList f.resultTypes.size)[j]? = some r → Value.okWide P W' .any 0 t r) :
    s.post enc P f apart fresh handsOn again W args v W' := by
  have hlt := fun p hp => hW.lt p hp
  have hold : ∀ p ∈ before, (fun b => decide (b < W.heap.size)) p.block = true := fun p hp => by simpa using hW.lt p hp
  refine ⟨ds, gs, before, [], pa, pv, hW, hres _ _ _, hargs _ hold, hvars _ hold, World.keptBut_mono (fun p hp => ⟨hp, ?_⟩) hk, fun _ => ?_⟩
  · rw [hps, List.mem_append] at hp
    exact Or.inr hp
  · obtain ⟨_, _, _, _, _, hz, hn⟩ := hW
    refine ⟨hok, _, _, ([] ++ pa) ++ pv, ⟨[] ++ pa, pv, trodAll_append (hargs _ (fun _ _ => rfl)) (hres _ _ _), hvars _ (fun _ _ => rfl), rfl, ?_, ?_⟩, ?_⟩
    · intro b off hp
      have hp' : MemPlace.cell b off ∈ before := by rw [hps]; simpa using hp
      rw [hfz ⟨b, off, none⟩ (hlt _ hp')]
      exact hz b off hp'
    · intro ha
      have := hn ha
      rw [hps] at this
      simpa using this
    · intro p hp _
      rw [hps]
      simpa using hp
theorem Zfg (hT : Zx P tab) {R : List TypeId} (hR : Zk1 P tab R = true) (hl : laidOutB P = true) (hm : mapsRowed P = true) (hz : ((List.range P.types.size).all fun t => match P.underlying t with | some (.slice e) => decide (0 < P.cellsOf e) | _ => true) = true)
    {f : FuncId} {fn : Func} {s : ChangeSpec} {apart fresh handsOn again : Bool} (hvars : s.vars = []) (hpar : (fn.params.toList.all fun t => R.contains t && decide (t < P.types.size)) = true)
    {tb : TypeId} (hres : fn.resultTypes = #[tb]) (htb : P.underlying tb = some .bool) (hsp : ∀ (ds : List (DataW H)), ds.length = fn.params.size → s.fn H ds = { results := [.lit (.bool true)], args := ds })
    (hS : ∀ xs, WtAll tab fn.params.toList xs → SumOk P tab f xs (.bool true, []))
    (args : Array Value) (ds gs : List (DataW H)) (before : List MemPlace)
    (hval : ∀ (j : Nat) t v, fn.params[j]? = some t → args[j]? = some v → Value.okWide P W .any 0 t v)
    (hW : DataW.Whole enc P fn.params.toList s.vars apart W args.toList ds gs before) :
    Calls P f args W fun e W' => ∃ v, e = .returned v ∧ s.post enc P fn apart fresh handsOn again W args v W' := by
  have hpar' : ∀ t ∈ fn.params.toList, t ∈ R ∧ t < P.types.size := fun t ht => by
    have := List.all_eq_true.1 hpar t ht
    simpa using this
  have hW' := hW
  obtain ⟨p, q, hA, hV, hb, hfz, hnd⟩ := hW'
  rw [hvars] at hV
  obtain ⟨rfl, rfl⟩ := trodVars_none hV
  have hA' : DataW.TrodAll enc P W 0 (fun _ => true) true fn.params.toList args.toList ds p := hA
  obtain ⟨xs, hxs, hrq⟩ := ZiH hT hR (fun t ht => (hpar' t ht).1) (fun j t v h1 h2 => hval j t v (by simpa using h1) (by simpa using h2)) hA'
  have hlen : ds.length = fn.params.size := by
    have : ∀ {ts : List TypeId} {vs : List Value} {ds : List (DataW H)} {ps : List MemPlace}, DataW.TrodAll enc P W 0 (fun _ => true) true ts vs ds ps → ds.length = ts.length := by
      intro ts
      induction ts with
      | nil => intro vs ds ps h; obtain ⟨rfl, rfl, rfl⟩ := trodAll_nil h; rfl
      | cons t ts ih =>
        intro vs ds ps h
        obtain ⟨v, vs1, d, ds1, a, b, rfl, rfl, rfl, h1, h2⟩ := trodAll_cons h
        simp [ih h2]
    simpa using this hA'
  have hcall := hS xs hxs W (· < W.heap.size) args.toList [] [] hrq (by simp) (fun g hg => ⟨hg, by simp⟩) (by simp)
  refine Calls.mono hcall ?_
  rintro e W' ⟨val, rfl, rt, rn, ot, on, r1, r2, h1, h2, h3, h4, hk⟩
  have hval' : val = .bool true := by
    cases r1 with | one r1 => cases r1 with | one r1 => cases r1 with | tree r1 => cases r1; rfl
  subst hval'
  refine ⟨_, rfl, ?_⟩
  have hlt : ∀ x ∈ before, x.block < W.heap.size := fun x hx => hW.lt x hx
  refine ZjH (pa := before) (pv := []) hW (fun b sp hd => ?_) (fun sp hsp' => ?_) (fun sp _ => ?_) (by simp) (Zow hk _) (fun a ha => ZlU hk ha) (fun j t r hj hr => ?_)
  · rw [List.append_nil, hsp ds hlen, hres]
    refine ⟨[], [], ⟨1, ?_⟩, rfl, rfl⟩
    show DataW.trod enc P W' b sp hd 1 tb [.bool true] = _
    unfold DataW.trod
    rw [htb]
  · rw [List.append_nil, hsp ds hlen]
    rw [hb, List.append_nil] at hsp' hlt ⊢
    exact Zf7 (kids_rows hl hm) (fun {t e} h1 h2 => slices_full_of P hz t e h1 h2) (fun t ht => (hpar' t ht).2) hA' (fun x hx => Zov hk (hlt x hx)) hsp'
  · rw [List.append_nil, hsp ds hlen, hvars]
    exact rfl
  · rw [hres] at hj hr
    have hj0 : j = 0 ∧ t = tb := by
      cases j with
      | zero => simpa using hj.symm
      | succ j => simp at hj
    obtain ⟨rfl, rfl⟩ := hj0
    have : r = .bool true := by
      simpa [Value.resultList] using hr.symm
    subst this
    simp [Value.okWide, htb, Cell.okWide, Cell.ok]
end
end Go.Eng
namespace Go.Eng
section
variable {tab : Tab} {T : TypeId} {x : V}
theorem WtT.cell (h : WtT tab T x) (j : Nat) {k : Ck} (hk : ((tab T).bind fun ty => ty.kinds[j]?) = some k) : Wt tab k (x.cell j) := by
  obtain ⟨ty, h1, h2, h3⟩ := h
  rw [h1, Option.bind_some] at hk
  have hj := (List.getElem?_eq_some_iff.1 hk).1
  have := h3 j hj
  rwa [show ty.kinds.getD j .other = k from by simp [List.getD, hk]] at this
theorem WtT.eta (h : WtT tab T x) {ty : Ty} (ht : tab T = some ty) : x = Eng.mk ty.agg (Zar ty.kinds x 0) := by
  obtain ⟨ty', h1, h2, h3⟩ := h
  obtain rfl := Option.some.inj (ht.symm.trans h1)
  rw [ZfI h2, mk_cells h2]
theorem wt_u8 {v : V} (h : Wt tab (.int .u8) v) : 0 ≤ v.I ∧ v.I ≤ 255 := by
  cases h with | int k n h =>
  simp [Lit.wf, IntKind.min, IntKind.max, IntKind.signed, IntKind.bits] at h
  exact h
theorem Zk3 {v : V} {e : TypeId} (h : Wt tab (.sl e) v) {w : V → Prop} (hw : ∀ y, WtT tab e y → w y) : LW w v.L := by
  cases h with | sl _ ty l h1 h2 h3 h4 =>
  refine ⟨h2, fun y hy => hw y ?_⟩
  have hy : y ∈ l := hy
  obtain ⟨i, hi, rfl⟩ := List.getElem_of_mem hy
  have e1 : l.getD i .dead = l[i] := by simp [List.getD, hi]
  exact ⟨ty, h1, by rw [← e1]; exact h3 i hi, fun j hj => by rw [← e1]; exact h4 i j hi hj⟩
theorem WtAll.one {t : TypeId} {xs : List V} (h : WtAll tab [t] xs) : ∃ a, xs = [a] ∧ WtT tab t a := by
  cases h with | cons h1 h2 => cases h2; exact ⟨_, rfl, h1⟩
end
end Go.Eng
namespace Go.Eng
variable {P : Program}
theorem ZcP (w : World) (dT sT ty elem : TypeId) (sz : Nat) (g o dLen dCap : Nat) (a : Addr) (sLen sCap : Nat) (cur : Array Value) (t : TypeId) (cs : List Value)
    (hu : P.underlying dT = some (.slice elem)) (hs : (P.info? elem).map (·.size) = some sz)
    (hg : w.heap[g]? = some (.cells cur t (0, 0))) (hn : cs.length = Nat.min sLen dLen * sz)
    (hsrc : ∀ j v, cs[j]? = some v → w.cell? (a.add j) = some v) (hfit : o + cs.length ≤ cur.size) (h1 : ∀ v ∈ cs, v.oneCell' = true) :
    (Builtin.copy_ #[dT, sT] ty #[.slice (some ⟨g, o, none⟩) dLen dCap, .slice (some a) sLen sCap]).run P w =
      .ok (goInt (Nat.min sLen dLen)) (w.setRow g (cur.toList.take o ++ cs ++ cur.toList.drop (o + cs.length)).toArray) := by
  have hl := run_loadCells_list (P := P) w a cs hsrc
  have hst := run_storeCells_at P g o t cs 0 cur w hg (by simpa using hfit) h1
  cases hq : P.info? elem with
  | none => simp [hq] at hs
  | some i =>
    have hi : i.size = sz := by simpa [hq] using hs
    simp [Builtin.copy_, run_underlying hu, Builtin.lenOf, Builtin.firstCells, sizeOf, typeInfo, hq, hi, ← hn, hl, hst]
theorem ZfN (w : World) (t e ty : TypeId) (z : Value) (sz : Nat) (hu : P.underlying t = some (.slice e)) (hv : ∀ w, (zeroValue e).run P w = .ok z w) (hz : z.cells.size = sz) (h1 : ∀ v ∈ z.cells, v.oneCell' = true) (hsz : 0 < sz)
    (g o n : Nat) (hn : 0 < n) (cur : Array Value) (T : TypeId) (hg : w.heap[g]? = some (.cells cur T (0, 0))) (hfit : o + n * sz ≤ cur.size) :
    ∃ tl : List Value, tl.length = n * sz ∧ ∀ c, (Builtin.clear_ #[t] ty #[.slice (some ⟨g, o, none⟩) n c]).run P w = .ok (.tuple #[]) (w.setRow g (cur.toList.take o ++ tl ++ cur.toList.drop (o + tl.length)).toArray) := by
  refine ⟨(Builtin.zeroCells z.cells n).toList, by rw [Array.length_toList, size_zeroCells, hz], fun c => ?_⟩
  have hl : (Builtin.zeroCells z.cells n).toList.length = n * sz := by rw [Array.length_toList, size_zeroCells, hz]
  have hst := run_storeCells_at P g o T (Builtin.zeroCells z.cells n).toList 0 cur w hg (by rw [hl]; simpa using hfit) (fun v hv' => by
    simp only [Builtin.zeroCells, Array.toList_map, List.mem_map] at hv'
    obtain ⟨k, hk, rfl⟩ := hv'
    have hlt : k % z.cells.size < z.cells.size := Nat.mod_lt _ (by omega)
    rw [getElem!_pos z.cells _ hlt]
    exact h1 _ (Array.getElem_mem hlt))
  simp only [Nat.add_zero] at hst
  obtain ⟨m, rfl⟩ : ∃ m, n = m + 1 := ⟨n - 1, by omega⟩
  simp [Builtin.clear_, run_underlying hu, hv, hst]
section
variable {w : World} {ops : Array Oper} {rest : List Oper} {o : Oper} {a : Act} {Q : Exit → Act → World → Prop}
theorem ZeC (hgd : o.guard = none) (d s : Operand) (t t' : TypeId)
    (ho : o.op = .call { callee := .builtin .copy, args := #[d, s], argTypes := #[t, t'] }) (v u : Value) (hd : a.eval d = v) (hs : a.eval s = u) {v' : Value} {w' : World}
    (hr : (Builtin.copy_ #[t, t'] o.type #[v, u]).run P w = .ok v' w') (h : wpList P ops Q rest (a.put o.dst v') w') : wpList P ops Q (o :: rest) a w :=
  wpList_plain hgd fun _ hK => by
    unfold Oper.wp execOp
    simp only [ho, resolve, invoke, builtin, Sem.run_bind, Sem.run_pure, Result.andThen_ok, List.map_toArray, List.map_cons, List.map_nil, hd, hs, hr]
    exact hK _ _ h
theorem ZaA (hgd : o.guard = none) (d : Operand) (t : TypeId)
    (ho : o.op = .call { callee := .builtin .clear, args := #[d], argTypes := #[t] }) (v : Value) (hd : a.eval d = v) {v' : Value} {w' : World}
    (hr : (Builtin.clear_ #[t] o.type #[v]).run P w = .ok v' w') (h : wpList P ops Q rest (a.put o.dst v') w') : wpList P ops Q (o :: rest) a w :=
  wpList_plain hgd fun _ hK => by
    unfold Oper.wp execOp
    simp only [ho, resolve, invoke, builtin, Sem.run_bind, Sem.run_pure, Result.andThen_ok, List.map_toArray, List.map_cons, List.map_nil, hd, hr]
    exact hK _ _ h
theorem ZfO {K : Act → World → Prop} {E : Prop}
    (hg : o.guard = none) (d x : Operand) (dT sT : TypeId) (hop : o.op = Op.call { callee := Callee.builtin Builtin.copy, args := #[d, x], argTypes := #[dT, sT] })
    (v u : Value) (hd : a.eval d = v) (hx : a.eval x = u) {v' : Value} {w' : World} (hr : (Builtin.copy_ #[dT, sT] o.type #[v, u]).run P w = .ok v' w') (hK : K (a.put o.dst v') w') :
    if Region.wanted o (yielded ops a.tmps) = true then Oper.wp P o a w K Q else E := by
  have hw : Region.wanted o (yielded ops a.tmps) = true := by simp [Region.wanted, hg]
  rw [if_pos hw]
  unfold Oper.wp
  simp [execOp, hop, resolve, invoke, builtin, hd, hx, hr, Result.andThen]
  exact hK
theorem ZeD {K : Act → World → Prop} {E : Prop}
    (hg : o.guard = none) (d x : Operand) (dT sT : TypeId) (hop : o.op = Op.call { callee := Callee.builtin Builtin.append, args := #[d, x], argTypes := #[dT, sT] })
    (v u : Value) (hd : a.eval d = v) (hx : a.eval x = u) {v' : Value} {w' : World} (hr : (Builtin.append_ #[dT, sT] o.type #[v, u]).run P w = .ok v' w') (hK : K (a.put o.dst v') w') :
    if Region.wanted o (yielded ops a.tmps) = true then Oper.wp P o a w K Q else E := by
  have hw : Region.wanted o (yielded ops a.tmps) = true := by simp [Region.wanted, hg]
  rw [if_pos hw]
  unfold Oper.wp
  simp [execOp, hop, resolve, invoke, builtin, hd, hx, hr, Result.andThen]
  exact hK
end
def ZdQ (l : List Value) : Prop := ∀ v ∈ l, v.oneCell' = true
def ZhU (P : Program) (f : FuncId) (T : TypeId) (sz : Nat) : Prop :=
  ∀ (g n cap i j : Nat) (cur : Array Value) (w : World), w.heap[g]? = some (.cells cur T (0, 0)) → cur.size = cap * sz → n ≤ cap → cap ≤ maxLen → ZdQ (cur.toList.take (n * sz)) → i < j → j ≤ n →
    Calls P f #[.slice (some ⟨g, 0, none⟩) n cap, .int .i64 i, .int .i64 j] w fun e w' => e = .returned (.slice (some ⟨g, 0, none⟩) (n - (j - i)) cap) ∧
      ∃ cur' : Array Value, w'.heap[g]? = some (.cells cur' T (0, 0)) ∧ cur'.size = cap * sz ∧ cur'.toList.take ((n - (j - i)) * sz) = (cur.toList.take (n * sz)).take (i * sz) ++ (cur.toList.take (n * sz)).drop (j * sz) ∧ KeptBut [g] w w'
def ZfB (P : Program) (f : FuncId) : Prop :=
  ∀ (a : Option Addr) (n cap i : Nat) (w : World), i ≤ n → n ≤ cap → cap ≤ maxLen → Calls P f #[.slice a n cap, .int .i64 i, .int .i64 i] w fun e w' => e = .returned (.slice a n cap) ∧ KeptBut [] w w'
end Go.Eng
namespace Go.Eng
variable {P : Program}
theorem Za8 {w : World} {g o m : Nat} {cur : Array Value} {T : TypeId} (hg : w.heap[g]? = some (.cells cur T (0, 0))) (h : o + m ≤ cur.size) :
    ∀ j v, ((cur.toList.drop o).take m)[j]? = some v → w.cell? ((⟨g, o, none⟩ : Addr).add j) = some v := by
  intro j v hv
  rw [List.getElem?_take] at hv
  split at hv
  · rename_i hj
    rw [List.getElem?_drop] at hv
    rw [Addr.add_none]
    have hlt := (List.getElem?_eq_some_iff.1 hv).1
    have : o + j < cur.size := by simpa using hlt
    have e := (List.getElem?_eq_some_iff.1 hv).2
    simp [World.cell?, hg, this]
    simpa using e
  · cases hv
def ZhV (P : Program) (f : FuncId) (T : TypeId) (sz bytes : Nat) : Prop :=
  ∀ (w : World) (v v2 : Value) (n i : Nat) (xs ys : List Value), RowIs w T sz n v xs → RowIs w T sz 1 v2 ys → (∀ g ∈ Zp v, g ∉ Zp v2) → ZdQ xs → ZdQ ys → i ≤ n → (n + 1) * bytes ≤ 140737488355328 →
    n + 1 ≤ 9223372036854775807 → Calls P f #[v, .int .i64 i, v2] w fun e w' => ∃ v', e = .returned v' ∧ RowIs w' T sz (n + 1) v' (xs.take (i * sz) ++ ys ++ xs.drop (i * sz)) ∧ KeptBut (Zp v) w w' ∧ ∀ g ∈ Zp v', g ∈ Zp v ∨ w.heap.size ≤ g
end Go.Eng
namespace Go.Eng
theorem Zm7 {α : Type} {cur y tl c1 c2 : List α} {a s : Nat} (ha : a + s ≤ cur.length) (hy : y.length = s) (h1 : c1 = cur.take (a + s) ++ tl ++ cur.drop (a + s + tl.length)) (h2 : c2 = c1.take a ++ y ++ c1.drop (a + s)) :
    c2.take (a + s + tl.length) = cur.take a ++ y ++ tl := by
  have e1 : c1.take a = cur.take a := by
    rw [h1, List.append_assoc, List.take_append_of_le_length (by simp; omega), List.take_take, Nat.min_eq_left (by omega)]
  have e2 : c1.drop (a + s) = tl ++ cur.drop (a + s + tl.length) := by
    rw [h1, List.append_assoc]; exact List.drop_left' (by simp; omega)
  rw [h2, e1, e2, ← List.append_assoc]
  exact List.take_left' (by simp; omega)
theorem Zk4 {α : Type} (l : List α) (a b : Nat) : (l.drop a).take (b - a) = (l.take b).drop a := by rw [List.drop_take]
end Go.Eng
namespace Go.Eng
theorem KeptBut.fresh {w w' : World} {F : List Nat} (h : KeptBut F w w') (hF : ∀ g ∈ F, w.heap.size ≤ g) : KeptBut [] w w' :=
  ⟨h.os, h.tape, h.output, h.size, fun g hg _ => h.block g hg fun hm => by have := hF g hm; omega⟩
theorem ZlV {α : Type} {row y tl c2 c3 : List α} {a s : Nat} (ha : a + s + tl.length ≤ row.length) (hy : y.length = s) (h2 : c2 = row.take a ++ y ++ row.drop (a + s)) (h3 : c3 = c2.take (a + s) ++ tl ++ c2.drop (a + s + tl.length)) :
    c3.take (a + s + tl.length) = row.take a ++ y ++ tl := by
  have e1 : c2.take (a + s) = row.take a ++ y := by rw [h2]; exact List.take_left' (by simp; omega)
  rw [h3, e1]
  exact List.take_left' (by simp; omega)
end Go.Eng
namespace Go.Eng
variable {P : Program}
def InsRoom (P : Program) (f : FuncId) (T : TypeId) (sz : Nat) : Prop :=
  ∀ (w : World) (g n cap i h caph : Nat) (cur curh : Array Value), w.heap[g]? = some (.cells cur T (0, 0)) → cur.size = cap * sz → cap ≤ maxLen → ZdQ (cur.toList.take (n * sz)) →
    w.heap[h]? = some (.cells curh T (0, 0)) → curh.size = caph * sz → 1 ≤ caph → h ≠ g → ZdQ (curh.toList.take sz) → i < n → n + 1 ≤ cap →
    Calls P f #[.slice (some ⟨g, 0, none⟩) n cap, .int .i64 i, .slice (some ⟨h, 0, none⟩) 1 caph] w fun e w' => e = .returned (.slice (some ⟨g, 0, none⟩) (n + 1) cap) ∧
      ∃ cur' : Array Value, w'.heap[g]? = some (.cells cur' T (0, 0)) ∧ cur'.size = cap * sz ∧ cur'.toList.take ((n + 1) * sz) = (cur.toList.take (n * sz)).take (i * sz) ++ curh.toList.take sz ++ (cur.toList.take (n * sz)).drop (i * sz) ∧ KeptBut [g] w w'
def InsGrow (P : Program) (f : FuncId) (T : TypeId) (sz bytes : Nat) : Prop :=
  ∀ (w : World) (g n cap i h caph : Nat) (cur curh : Array Value), w.heap[g]? = some (.cells cur T (0, 0)) → cur.size = cap * sz → cap ≤ maxLen → ZdQ (cur.toList.take (n * sz)) →
    w.heap[h]? = some (.cells curh T (0, 0)) → curh.size = caph * sz → 1 ≤ caph → ZdQ (curh.toList.take sz) → i < n → n ≤ cap → cap < n + 1 → (n + 1) * bytes ≤ 140737488355328 →
    Calls P f #[.slice (some ⟨g, 0, none⟩) n cap, .int .i64 i, .slice (some ⟨h, 0, none⟩) 1 caph] w fun e w' => ∃ cap', e = .returned (.slice (some ⟨w.heap.size, 0, none⟩) (n + 1) cap') ∧ n + 1 ≤ cap' ∧ cap' ≤ maxLen ∧
      ∃ cur' : Array Value, w'.heap[w.heap.size]? = some (.cells cur' T (0, 0)) ∧ cur'.size = cap' * sz ∧ cur'.toList.take ((n + 1) * sz) = (cur.toList.take (n * sz)).take (i * sz) ++ curh.toList.take sz ++ (cur.toList.take (n * sz)).drop (i * sz) ∧ KeptBut [] w w'
def Zm8 (P : Program) (f : FuncId) (T : TypeId) (sz bytes : Nat) : Prop :=
  ∀ (w : World) (v v2 : Value) (n : Nat) (xs ys : List Value), RowIs w T sz n v xs → RowIs w T sz 1 v2 ys → ZdQ ys → (n + 1) * bytes ≤ 140737488355328 → n + 1 ≤ 9223372036854775807 →
    Calls P f #[v, .int .i64 n, v2] w fun e w' => ∃ v', e = .returned v' ∧ RowIs w' T sz (n + 1) v' (xs ++ ys) ∧ KeptBut (Zp v) w w' ∧ ∀ g ∈ Zp v', g ∈ Zp v ∨ g = w.heap.size
theorem ZhW {w : World} {T : TypeId} {sz n : Nat} {g cap : Nat} {cur : Array Value} {xs : List Value} (hc : 0 < cap) (hg : w.heap[g]? = some (.cells cur T (0, 0))) (hn : n ≤ cap) (hm : cap ≤ maxLen) (hs : cur.size = cap * sz) (hx : cur.toList.take (n * sz) = xs) :
    RowIs w T sz n (.slice (some ⟨g, 0, none⟩) n cap) xs :=
  ⟨by rw [← hx, List.length_take, Array.length_toList, hs]; exact Nat.min_eq_left (Nat.mul_le_mul_right _ hn), .inr ⟨g, cap, cur, rfl, hc, .of hg, hn, hm, hs, hx⟩⟩
theorem ZcQ (g n cap : Nat) (hc : 0 < cap) : Zp (.slice (some ⟨g, 0, none⟩) n cap) = [g] := by
  obtain ⟨c, rfl⟩ : ∃ c, cap = c + 1 := ⟨cap - 1, by omega⟩
  rfl
theorem ins_ok {f : FuncId} {T : TypeId} {sz bytes : Nat} (hR : InsRoom P f T sz) (hG : InsGrow P f T sz bytes) (hE : Zm8 P f T sz bytes) (hne : Nat.beq T ZbG = false := by rfl) : ZhV P f T sz bytes := by
  have hmk : T ≠ ZbG := fun e => by rw [e, Nat.beq_refl] at hne; cases hne
  intro w v v2 n i xs ys hr hr2 hd h1 h1h hi hbig h63
  by_cases hin : i = n
  · subst hin
    refine (hE w v v2 i xs ys hr hr2 h1h hbig h63).mono ?_
    rintro e w' ⟨v', rfl, k1, k2, k3⟩
    refine ⟨v', rfl, ?_, k2, fun g hg => ?_⟩
    · rw [List.take_of_length_le (by rw [hr.1]; exact Nat.le_refl _), List.drop_of_length_le (by rw [hr.1]; exact Nat.le_refl _), List.append_nil]; exact k1
    · rcases k3 g hg with h | h
      · exact .inl h
      · exact .inr (by omega)
  · have hlt : i < n := by omega
    rcases hr.2 with ⟨a, rfl, h0⟩ | ⟨g, cap, cur, rfl, hc, hg, hn, hm, hs, hx⟩
    · omega
    rcases hr2.2 with ⟨a, rfl, h0⟩ | ⟨h, caph, curh, rfl, hch, hh, hn2, hm2, hs2, hx2⟩
    · omega
    have hne : h ≠ g := fun e => hd g (by rw [ZcQ _ _ _ hc]; simp) (by rw [ZcQ _ _ _ hch, e]; simp)
    rw [Nat.one_mul] at hx2
    subst hx; subst hx2
    have hg := hg.zero hmk
    have hh := hh.zero hmk
    by_cases hroom : n + 1 ≤ cap
    · refine (hR w g n cap i h caph cur curh hg hs hm h1 hh hs2 hn2 hne h1h hlt hroom).mono ?_
      rintro e w' ⟨rfl, cur', k1, k2, k3, k4⟩
      refine ⟨_, rfl, ZhW hc k1 hroom hm k2 k3, by rw [ZcQ _ _ _ hc]; exact k4, fun g' hg' => .inl ?_⟩
      rw [ZcQ _ _ _ hc] at hg' ⊢; exact hg'
    · refine (hG w g n cap i h caph cur curh hg hs hm h1 hh hs2 hn2 h1h hlt hn (by omega) hbig).mono ?_
      rintro e w' ⟨cap', rfl, k0, k0', cur', k1, k2, k3, k4⟩
      refine ⟨_, rfl, ZhW (by omega) k1 k0 k0' k2 k3, k4.mono (by simp), fun g' hg' => .inr ?_⟩
      rw [ZcQ _ _ _ (by omega)] at hg'; simp at hg'; omega
section
variable {tab : Tab}
structure Els (tab : Tab) (w : World) (ok : Nat → Prop) (ty : Ty) (own : Bool) (l : List V) (xs : List Value) (F : Nat → Nat → List Nat) : Prop where
  len : xs.length = l.length * ty.kinds.length
  shape : ∀ i, i < l.length → ZbQ ty (l.getD i .dead)
  yes : own = true → ∀ i j, i < l.length → j < ty.kinds.length → Ro tab w ((l.getD i .dead).cell j) (xs.getD (i * ty.kinds.length + j) undef) (F i j)
  no : own = false → (∀ i j, F i j = []) ∧ ∀ i j, i < l.length → j < ty.kinds.length → Rp tab w ok ((l.getD i .dead).cell j) (xs.getD (i * ty.kinds.length + j) undef)
theorem RowT.els {w : World} {ok : Nat → Prop} {T : TypeId} {own : Bool} {l : List V} {v : Value} {nest : List Nat} (h : RowT tab w ok T own l v nest) {ty : Ty} (ht : tab T = some ty) :
    ∃ xs F, RowIs w T ty.kinds.length l.length v xs ∧ Els tab w ok ty own l xs F ∧ nest = Zz l.length ty.kinds.length F := by
  obtain ⟨ty', xs, ht', hr, hs, he⟩ := h
  obtain rfl := Option.some.inj (ht.symm.trans ht')
  rcases he with ⟨ho, F, hn, he⟩ | ⟨ho, hn, he⟩
  · exact ⟨xs, F, hr, ⟨hr.1, hs, fun _ => he, fun h => by rw [ho] at h; cases h⟩, hn⟩
  · refine ⟨xs, fun _ _ => [], hr, ⟨hr.1, hs, fun h => by rw [ho] at h; (cases h), fun _ => ⟨fun _ _ => rfl, he⟩⟩, ?_⟩
    rw [hn]; simp [Zz]
theorem Els.row {w : World} {ok : Nat → Prop} {T : TypeId} {own : Bool} {l : List V} {v : Value} {ty : Ty} (ht : tab T = some ty) {xs : List Value} {F : Nat → Nat → List Nat} (hr : RowIs w T ty.kinds.length l.length v xs) (h : Els tab w ok ty own l xs F) :
    RowT tab w ok T own l v (Zz l.length ty.kinds.length F) := by
  refine ⟨ty, xs, ht, hr, h.shape, ?_⟩
  cases ho : own with
  | true => exact .inl ⟨rfl, F, rfl, h.yes ho⟩
  | false =>
    obtain ⟨h1, h2⟩ := h.no ho
    refine .inr ⟨rfl, ?_, h2⟩
    simp [Zz, h1]
theorem Els.keep {w w' : World} {ok ok' : Nat → Prop} {own : Bool} {l : List V} {ty : Ty} {xs : List Value} {F : Nat → Nat → List Nat} (h : Els tab w ok ty own l xs F) (hok : ∀ g, ok g → ok' g) (hw : ∀ g, ok g → w'.heap[g]? = w.heap[g]?)
    (hF : ∀ i j, i < l.length → j < ty.kinds.length → ∀ g ∈ F i j, w'.heap[g]? = w.heap[g]?) : Els tab w' ok' ty own l xs F :=
  ⟨h.len, h.shape, fun ho i j hi hj => (h.yes ho i j hi hj).keep (hF i j hi hj), fun ho => ⟨(h.no ho).1, fun i j hi hj => ((h.no ho).2 i j hi hj).keep hok hw⟩⟩
theorem Els.one {w : World} {ok : Nat → Prop} {own : Bool} {l : List V} {ty : Ty} {xs : List Value} {F : Nat → Nat → List Nat} (h : Els tab w ok ty own l xs F) : ZdQ xs := by
  intro v hv
  obtain ⟨k, hk, rfl⟩ := List.getElem_of_mem hv
  rw [h.len] at hk
  obtain ⟨h1, h2, h3⟩ := ZhC hk
  have e : xs.getD (k / ty.kinds.length * ty.kinds.length + k % ty.kinds.length) undef = xs[k] := by rw [h3]; simp [List.getD, h.len, hk]
  rw [← e]
  cases ho : own with
  | true => exact (h.yes ho _ _ h1 h2).oneCell
  | false => exact ((h.no ho).2 _ _ h1 h2).oneCell _ ((h.shape _ h1).2.2.2 _ h2)
theorem Els.pick {w : World} {ok : Nat → Prop} {own : Bool} {l : List V} {ty : Ty} {xs : List Value} {F : Nat → Nat → List Nat} (h : Els tab w ok ty own l xs F) (φ : Nat → Nat) {l' : List V} {xs' : List Value}
    (hlen : xs'.length = l'.length * ty.kinds.length) (hφ : ∀ k, k < l'.length → φ k < l.length) (hl : ∀ k, k < l'.length → l'.getD k .dead = l.getD (φ k) .dead)
    (hx : ∀ k c, k < l'.length → c < ty.kinds.length → xs'.getD (k * ty.kinds.length + c) undef = xs.getD (φ k * ty.kinds.length + c) undef) : Els tab w ok ty own l' xs' (fun k c => F (φ k) c) :=
  ⟨hlen, fun k hk => by rw [hl k hk]; exact h.shape _ (hφ k hk), fun ho k c hk hc => by rw [hl k hk, hx k c hk hc]; exact h.yes ho _ _ (hφ k hk) hc,
   fun ho => ⟨fun k c => (h.no ho).1 _ _, fun k c hk hc => by rw [hl k hk, hx k c hk hc]; exact (h.no ho).2 _ _ (hφ k hk) hc⟩⟩
theorem Els.append {w : World} {ok : Nat → Prop} {own : Bool} {l l' : List V} {ty : Ty} {xs xs' : List Value} {F F' : Nat → Nat → List Nat} (h : Els tab w ok ty own l xs F) (h' : Els tab w ok ty own l' xs' F') :
    Els tab w ok ty own (l ++ l') (xs ++ xs') (fun k c => if k < l.length then F k c else F' (k - l.length) c) := by
  have hg1 : ∀ k, k < l.length → (l ++ l').getD k .dead = l.getD k .dead := fun k hk => by simp only [List.getD, List.getElem?_append_left hk]
  have hg2 : ∀ k, ¬ k < l.length → (l ++ l').getD k .dead = l'.getD (k - l.length) .dead := fun k hk => by simp [List.getD, List.getElem?_append_right (Nat.le_of_not_lt hk)]
  have hx1 : ∀ k c, k < l.length → c < ty.kinds.length → (xs ++ xs').getD (k * ty.kinds.length + c) undef = xs.getD (k * ty.kinds.length + c) undef := fun k c hk hc => by
    have : k * ty.kinds.length + c < xs.length := by rw [h.len]; exact ZbH hk hc
    simp only [List.getD, List.getElem?_append_left this]
  have hx2 : ∀ k c, ¬ k < l.length → c < ty.kinds.length → (xs ++ xs').getD (k * ty.kinds.length + c) undef = xs'.getD ((k - l.length) * ty.kinds.length + c) undef := fun k c hk hc => by
    have e : l.length * ty.kinds.length ≤ k * ty.kinds.length := Nat.mul_le_mul_right _ (Nat.le_of_not_lt hk)
    have : xs.length ≤ k * ty.kinds.length + c := by rw [h.len]; omega
    simp only [List.getD, List.getElem?_append_right this]
    rw [h.len, Nat.sub_mul, show k * ty.kinds.length + c - l.length * ty.kinds.length = k * ty.kinds.length - l.length * ty.kinds.length + c from by omega]
  refine ⟨by simp [h.len, h'.len, Nat.add_mul], fun k hk => ?_, fun ho k c hk hc => ?_, fun ho => ⟨fun k c => ?_, fun k c hk hc => ?_⟩⟩
  · by_cases hk' : k < l.length
    · rw [hg1 k hk']; exact h.shape k hk'
    · rw [hg2 k hk']; exact h'.shape _ (by simp at hk; omega)
  · by_cases hk' : k < l.length
    · rw [hg1 k hk', hx1 k c hk' hc, if_pos hk']; exact h.yes ho k c hk' hc
    · rw [hg2 k hk', hx2 k c hk' hc, if_neg hk']; exact h'.yes ho _ c (by simp at hk; omega) hc
  · split
    · exact (h.no ho).1 _ _
    · exact (h'.no ho).1 _ _
  · by_cases hk' : k < l.length
    · rw [hg1 k hk', hx1 k c hk' hc]; exact (h.no ho).2 k c hk' hc
    · rw [hg2 k hk', hx2 k c hk' hc]; exact (h'.no ho).2 _ c (by simp at hk; omega) hc
theorem Zk5 {α : Type} {l : List α} {n i : Nat} {d : α} (h : i < n) : (l.take n).getD i d = l.getD i d := by simp [List.getD, h]
theorem Zk6 {α : Type} {l : List α} {n i : Nat} {d : α} : (l.drop n).getD i d = l.getD (n + i) d := by simp [List.getD]
theorem Els.take {w : World} {ok : Nat → Prop} {own : Bool} {l : List V} {ty : Ty} {xs : List Value} {F : Nat → Nat → List Nat} (h : Els tab w ok ty own l xs F) {n : Nat} (hn : n ≤ l.length) : Els tab w ok ty own (l.take n) (xs.take (n * ty.kinds.length)) F := by
  refine h.pick id (by rw [List.length_take, List.length_take, h.len, Nat.min_eq_left hn, Nat.min_eq_left (Nat.mul_le_mul_right _ hn)]) (fun k hk => by simp at hk; exact (by omega : k < l.length)) (fun k hk => ?_) fun k c hk hc => ?_
  · exact Zk5 (by simp at hk; omega)
  · exact Zk5 (ZbH (by simp at hk; omega) hc)
theorem Els.drop {w : World} {ok : Nat → Prop} {own : Bool} {l : List V} {ty : Ty} {xs : List Value} {F : Nat → Nat → List Nat} (h : Els tab w ok ty own l xs F) (n : Nat) : Els tab w ok ty own (l.drop n) (xs.drop (n * ty.kinds.length)) (fun k c => F (n + k) c) := by
  refine h.pick (fun k => n + k) (by simp [h.len, Nat.sub_mul]) (fun k hk => by simp at hk; omega) (fun k hk => Zk6) fun k c hk hc => ?_
  rw [Zk6, Nat.add_mul, Nat.add_assoc]
def ZfC (l : List V) (i j : Int) : Option (List V) := bif decide (0 ≤ i) && (decide (i ≤ j) && (decide (j ≤ (l.length : Int)) && decide (l.length ≤ 9223372036854775807))) then some (l.take i.toNat ++ l.drop j.toNat) else none
def Zfh (bytes : Nat) (l : List V) (i : Int) (x : List V) : Option (List V) := bif decide (0 ≤ i) && (decide (i ≤ (l.length : Int)) && (decide (x.length = 1) && Zw (l.length + 1) bytes)) then some (l.take i.toNat ++ x ++ l.drop i.toNat) else none
theorem ZpT {n m n' m' : Nat} {F F' : Nat → Nat → List Nat} (h : ∀ k c, k < n' → c < m' → ∃ k', k' < n ∧ ∃ c', c' < m ∧ F' k c = F k' c') : ∀ g ∈ Zz n' m' F', g ∈ Zz n m F := fun g hg => by
  obtain ⟨k, hk, c, hc, hg⟩ := mem_flatF.1 hg
  obtain ⟨k', hk', c', hc', e⟩ := h k c hk hc
  exact mem_flatF.2 ⟨k', hk', c', hc', e ▸ hg⟩
theorem Zo9 {n n' m : Nat} {F : Nat → Nat → List Nat} (φ : Nat → Nat) (hφ : ∀ k, k < n' → φ k < n) (hinj : ∀ k k', k < n' → k' < n' → φ k = φ k' → k = k') (h : (Zz n m F).Nodup) : (Zz n' m fun k c => F (φ k) c).Nodup := by
  rw [nodup_flatF] at h ⊢
  refine ⟨fun k c hk hc => h.1 _ _ (hφ k hk) hc, fun k c k' c' hk hc hk' hc' hne => h.2 _ _ _ _ (hφ k hk) hc (hφ k' hk') hc' ?_⟩
  rcases hne with hne | hne
  · exact .inl fun e => hne (hinj k k' hk hk' e)
  · exact .inr hne
end
end Go.Eng
namespace Go.Eng
variable {P : Program} {tab : Tab}
theorem Zn2 (a : Option Addr) (n cap : Nat) : Zp (.slice a n cap) = match a, cap with | some a, _ + 1 => [a.block] | _, _ => [] := by
  cases a <;> cases cap <;> rfl
theorem ZjV {w w' : World} {ok : Nat → Prop} {t n : List Nat} {v' : Value} {own : Bool} {l : List V} {ty : Ty} {xs : List Value} {F : Nat → Nat → List Nat} (h : Els tab w ok ty own l xs F)
    (hF : ∀ g ∈ Zz l.length ty.kinds.length F, g ∈ n) (hnd : (t ++ n).Nodup) (hok : ∀ g, ok g → g < w.heap.size ∧ g ∉ t) (hlt : ∀ g ∈ t ++ n, g < w.heap.size) (hk : KeptBut t w w') (htop : ∀ g ∈ Zp v', g ∈ t ∨ w.heap.size ≤ g) :
    Els tab w' (fun g => (ok g ∨ g ∈ t ++ n ∨ w.heap.size ≤ g) ∧ g < w'.heap.size ∧ g ∉ ([] ++ Zp v')) ty own l xs F := by
  refine h.keep (fun g hg => ⟨.inl hg, Nat.lt_of_lt_of_le (hok g hg).1 hk.size, fun hm => ?_⟩) (fun g hg => hk.block g (hok g hg).1 (hok g hg).2) fun i j hi hj g hg => ?_
  · rcases htop g (by simpa using hm) with h1 | h1
    · exact (hok g hg).2 h1
    · have := (hok g hg).1; omega
  · have hgn := hF g (mem_flatF.2 ⟨i, hi, j, hj, hg⟩)
    refine hk.block g (hlt g (List.mem_append_right _ hgn)) fun hm => ?_
    exact (List.nodup_append.1 hnd).2.2 g hm g hgn rfl
theorem ZjW {w w' : World} {ok : Nat → Prop} {args : List V} {vals : List Value} {t n : List Nat} {T : TypeId} {own : Bool} {r : List V} {v' : Value} {ty : Ty} {xs : List Value} {F : Nat → Nat → List Nat} {outs : List V} (ht : tab T = some ty)
    (hr : RowIs w' T ty.kinds.length r.length v' xs) (he : Els tab w' (fun g => (ok g ∨ g ∈ t ++ n ∨ w.heap.size ≤ g) ∧ g < w'.heap.size ∧ g ∉ ([] ++ Zp v')) ty own r xs F)
    (hO : ∀ R : V → Value → List Nat → List Nat → Prop, (∀ v, R .dead v [] []) → OutL R (Zbo args vals) outs [] []) (hnd : (t ++ n).Nodup) (hlt : ∀ g ∈ t ++ n, g < w.heap.size)
    (hF : ∀ g ∈ Zz r.length ty.kinds.length F, g ∈ n) (hFn : (Zz r.length ty.kinds.length F).Nodup) (hk : KeptBut t w w') (htop : ∀ g ∈ Zp v', g ∈ t ∨ w.heap.size ≤ g) :
    Zky tab w ok args vals t n (.rr T own r, outs) v' w' := by
  have hn1 : ∀ g ∈ Zz r.length ty.kinds.length F, g < w.heap.size ∧ g ∉ t := fun g hg => ⟨hlt g (List.mem_append_right _ (hF g hg)), fun hm => (List.nodup_append.1 hnd).2.2 g hm g (hF g hg) rfl⟩
  have hT : (Zp v').Nodup := by
    cases v' with
    | slice a n c => rw [Zn2]; split <;> simp
    | _ => simp [Zp]
  refine ⟨Zp v', Zz r.length ty.kinds.length F, [], [], .one (.one (.row (he.row ht hr))), hO _ fun v => .one (.tree (.dead _)), ?_, ?_, ?_, ?_, hk⟩
  · simp only [List.nil_append]
    rw [List.nodup_append]
    refine ⟨hT, hFn, fun a ha b hb e => ?_⟩
    subst e
    rcases htop a ha with h | h
    · exact (hn1 a hb).2 h
    · have := (hn1 a hb).1; omega
  · simpa using htop
  · intro g hg
    exact .inl (List.mem_append_right _ (hF g (by simpa using hg)))
  · intro g hg
    simp only [List.nil_append, List.mem_append] at hg
    rcases hg with hg | hg
    · exact hr.top_lt g hg
    · exact Nat.lt_of_lt_of_le (hn1 g hg).1 hk.size
theorem Zm9 {w : World} {ok : Nat → Prop} {k : IntKind} {m : Int} {v : Value} {t n : List Nat} (h : Rq2 tab w ok (.int k m) v t n) : v = .int k m ∧ t = [] ∧ n = [] := by
  cases h with | one h => cases h with | tree h => cases h; exact ⟨rfl, rfl, rfl⟩
theorem Zk7 {w : World} {ok : Nat → Prop} {T : TypeId} {own : Bool} {l : List V} {v : Value} {t n : List Nat} (h : Rq2 tab w ok (.rr T own l) v t n) : RowT tab w ok T own l v n ∧ t = Zp v := by
  cases h with | one h => cases h with
    | tree h => cases h
    | row h => exact ⟨h, rfl⟩
theorem RowIs.slice {w : World} {T : TypeId} {sz N : Nat} {v : Value} {xs : List Value} (h : RowIs w T sz N v xs) : ∃ a cap, v = .slice a N cap ∧ N ≤ cap ∧ cap ≤ maxLen := by
  rcases h.2 with ⟨a, rfl, rfl⟩ | ⟨g, cap, cur, rfl, h1, h2, h3, h4, _⟩
  · exact ⟨a, 0, rfl, Nat.le_refl _, by simp [maxLen]⟩
  · exact ⟨_, cap, rfl, h3, h4⟩
theorem Zox {f : FuncId} {T : TypeId} {ty : Ty} {own : Bool} {l r : List V} {i j : Int} (ht : tab T = some ty) (hD : ZhU P f T ty.kinds.length) (hS : ZfB P f) (hv : ZfC l i j = some r) (hne : T ≠ ZbG) :
    SumOk P tab f [.rr T own l, .int .i64 i, .int .i64 j] (.rr T own r, [.dead]) := by
  intro w ok vals t n hrq hnd hok hlt
  cases hrq with | @cons _ v t1 n1 _ vs1 ts1 ns1 hx hxs =>
  cases hxs with | @cons _ v2 t2 n2 _ vs2 ts2 ns2 hx2 hxs =>
  cases hxs with | @cons _ v3 t3 n3 _ vs3 ts3 ns3 hx3 hxs =>
  cases hxs
  obtain ⟨rfl, rfl, rfl⟩ := Zm9 hx2
  obtain ⟨rfl, rfl, rfl⟩ := Zm9 hx3
  obtain ⟨hrow, rfl⟩ := Zk7 hx
  simp only [List.append_nil] at hnd hok hlt ⊢
  unfold ZfC at hv
  rw [Bool.cond_eq_ite] at hv
  split at hv
  case isFalse => cases hv
  rename_i hb
  cases hv
  simp only [Bool.and_eq_true, decide_eq_true_eq] at hb
  obtain ⟨hi, hij, hjl, hl63⟩ := hb
  obtain ⟨i, rfl⟩ := Int.eq_ofNat_of_zero_le hi
  obtain ⟨j, rfl⟩ := Int.eq_ofNat_of_zero_le (Int.le_trans hi hij)
  have hij : i ≤ j := by omega
  have hjl : j ≤ l.length := by omega
  simp only [Int.toNat_natCast]
  obtain ⟨xs, F, hr, he, hn⟩ := hrow.els ht
  have hO : ∀ R : V → Value → List Nat → List Nat → Prop, (∀ v, R .dead v [] []) → OutL R (Zbo [V.rr T own l, .int .i64 (i : Int), .int .i64 (j : Int)] [v, .int .i64 (i : Int), .int .i64 (j : Int)]) [.dead] [] [] := fun R h =>
    (OutL.cons (p := (V.rr T own l, v)) (t := []) (n := []) trivial (h _) .nil : OutL R [(V.rr T own l, v)] [.dead] ([] ++ []) ([] ++ []))
  have hFn0 : (Zz l.length ty.kinds.length F).Nodup := by rw [← hn]; exact (List.nodup_append.1 hnd).2.1
  have hel := (he.take (n := i) (by omega)).append (he.drop j)
  have hF' : ∀ k c, (if k < (l.take i).length then F k c else F (j + (k - (l.take i).length)) c) = F (if k < i then k else j + (k - i)) c := fun k c => by
    have : (l.take i).length = i := by simp; omega
    rw [this]; split <;> rfl
  have hlen : (l.take i ++ l.drop j).length = l.length - (j - i) := by simp; omega
  have hφ : ∀ k, k < (l.take i ++ l.drop j).length → (if k < i then k else j + (k - i)) < l.length := fun k hk => by rw [hlen] at hk; split <;> omega
  have hsub : ∀ g ∈ Zz (l.take i ++ l.drop j).length ty.kinds.length (fun k c => if k < (l.take i).length then F k c else F (j + (k - (l.take i).length)) c), g ∈ n1 := by
    rw [hn]
    exact ZpT fun k c hk hc => ⟨_, hφ k hk, c, hc, hF' k c⟩
  have hnod : (Zz (l.take i ++ l.drop j).length ty.kinds.length (fun k c => if k < (l.take i).length then F k c else F (j + (k - (l.take i).length)) c)).Nodup := by
    have := Zo9 (fun k => if k < i then k else j + (k - i)) hφ (fun k k' hk hk' e => by
      split at e <;> split at e <;> omega) hFn0
    simpa only [hF'] using this
  by_cases heq : i = j
  · subst heq
    obtain ⟨a, cap, rfl, h1, h2⟩ := hr.slice
    refine Calls.mono (hS a l.length cap i w hjl h1 h2) ?_
    rintro e w' ⟨rfl, hk⟩
    have hk' : KeptBut (Zp (.slice a l.length cap)) w w' := hk.mono (by simp)
    refine ⟨_, rfl, ZjW ht (xs := xs.take (i * ty.kinds.length) ++ xs.drop (i * ty.kinds.length)) ?_ (ZjV hel hsub hnd hok hlt hk' fun g hg => .inl hg) hO hnd hlt hsub hnod hk' fun g hg => .inl hg⟩
    rw [List.take_append_drop, List.take_append_drop]
    refine hr.keep fun g hg => hk.block g (hlt g (List.mem_append_left _ hg)) (by simp)
  · rcases hr.2 with ⟨a, rfl, h0⟩ | ⟨g, cap, cur, rfl, hc, hg, hN, hm, hs, hx⟩
    · omega
    have hg := hg.zero hne
    refine Calls.mono (hD g l.length cap i j cur w hg hs hN hm (by rw [hx]; exact he.one) (by omega) hjl) ?_
    rintro e w' ⟨rfl, cur', k1, k2, k3, k4⟩
    have htop : Zp (Value.slice (some ⟨g, 0, none⟩) (l.length - (j - i)) cap) = Zp (Value.slice (some ⟨g, 0, none⟩) l.length cap) := by rw [ZcQ _ _ _ hc, ZcQ _ _ _ hc]
    have hk' : KeptBut (Zp (Value.slice (some ⟨g, 0, none⟩) l.length cap)) w w' := by rw [ZcQ _ _ _ hc]; exact k4
    refine ⟨_, rfl, ZjW ht (xs := xs.take (i * ty.kinds.length) ++ xs.drop (j * ty.kinds.length)) ?_ (ZjV hel hsub hnd hok hlt hk' fun g hg => .inl (htop ▸ hg)) hO hnd hlt hsub hnod hk' fun g hg => .inl (htop ▸ hg)⟩
    rw [hlen]
    exact ZhW hc k1 (by omega) hm k2 (by rw [k3, hx])
theorem Zlz {f : FuncId} {T : TypeId} {ty : Ty} {own : Bool} {l x r : List V} {i : Int} (ht : tab T = some ty) (hI : ZhV P f T ty.kinds.length ty.bytes) (hv : Zfh ty.bytes l i x = some r) :
    SumOk P tab f [.rr T own l, .int .i64 i, .rr T own x] (.rr T own r, [.dead, .dead]) := by
  intro w ok vals t n hrq hnd hok hlt
  cases hrq with | @cons _ v t1 n1 _ vs1 ts1 ns1 hx hxs =>
  cases hxs with | @cons _ v2 t2 n2 _ vs2 ts2 ns2 hx2 hxs =>
  cases hxs with | @cons _ v3 t3 n3 _ vs3 ts3 ns3 hx3 hxs =>
  cases hxs
  obtain ⟨rfl, rfl, rfl⟩ := Zm9 hx2
  obtain ⟨hrow, rfl⟩ := Zk7 hx
  obtain ⟨hrow3, rfl⟩ := Zk7 hx3
  simp only [List.append_nil, List.nil_append] at hnd hok hlt ⊢
  unfold Zfh at hv
  rw [Bool.cond_eq_ite] at hv
  split at hv
  case isFalse => cases hv
  rename_i hb
  cases hv
  simp only [Bool.and_eq_true, decide_eq_true_eq, Zw] at hb
  obtain ⟨hi, hil, hx1, hr63, hrb⟩ := hb
  obtain ⟨i, rfl⟩ := Int.eq_ofNat_of_zero_le hi
  have hil : i ≤ l.length := by omega
  simp only [Int.toNat_natCast]
  obtain ⟨xs, F, hr, he, hn⟩ := hrow.els ht
  obtain ⟨ys, G, hr3, he3, hn3⟩ := hrow3.els ht
  subst hn; subst hn3
  have hO : ∀ R : V → Value → List Nat → List Nat → Prop, (∀ v, R .dead v [] []) → OutL R (Zbo [V.rr T own l, .int .i64 (i : Int), .rr T own x] [v, .int .i64 (i : Int), v3]) [.dead, .dead] [] [] := fun R h =>
    (OutL.cons (p := (V.rr T own l, v)) (t := []) (n := []) trivial (h _) (OutL.cons (p := (V.rr T own x, v3)) (t := []) (n := []) trivial (h _) .nil) : OutL R [(V.rr T own l, v), (V.rr T own x, v3)] [.dead, .dead] ([] ++ ([] ++ [])) ([] ++ ([] ++ [])))
  have hel := ((he.take (n := i) hil).append he3).append (he.drop i)
  have hli : (l.take i).length = i := by simp; omega
  have hlix : (l.take i ++ x).length = i + 1 := by simp [hx1]; omega
  have hlen : (l.take i ++ x ++ l.drop i).length = l.length + 1 := by simp [hx1]; omega
  obtain ⟨F', hF'⟩ : ∃ F' : Nat → Nat → List Nat, F' = fun k c => if k < (l.take i ++ x).length then (if k < (l.take i).length then F k c else G (k - (l.take i).length) c) else F (i + (k - (l.take i ++ x).length)) c := ⟨_, rfl⟩
  rw [← hF'] at hel
  have c1 : ∀ k c, k < i → F' k c = F k c := fun k c hk => by rw [hF']; simp only [hlix, hli]; rw [if_pos (by omega), if_pos hk]
  have c2 : ∀ c, F' i c = G 0 c := fun c => by rw [hF']; simp only [hlix, hli]; rw [if_pos (by omega), if_neg (by omega), Nat.sub_self]
  have c3 : ∀ k c, i < k → F' k c = F (k - 1) c := fun k c hk => by rw [hF']; simp only [hlix, hli]; rw [if_neg (by omega)]; congr 1; omega
  obtain ⟨⟨hT1, hT2, hT3⟩, ⟨hN1, hN2, hN3⟩, hTN⟩ := (List.nodup_append.1 hnd).imp List.nodup_append.1 fun h => h.imp List.nodup_append.1 id
  have hFn := nodup_flatF.1 hN1
  have hGn := nodup_flatF.1 hN2
  have hFG : ∀ k c c' g, k < l.length → c < ty.kinds.length → c' < ty.kinds.length → g ∈ F k c → g ∈ G 0 c' → False := fun k c c' g hk hc hc' h1 h2 => hN3 g (mem_flatF.2 ⟨k, hk, c, hc, h1⟩) g (mem_flatF.2 ⟨0, by omega, c', hc', h2⟩) rfl
  have hsub : ∀ g ∈ Zz (l.take i ++ x ++ l.drop i).length ty.kinds.length F', g ∈ Zz l.length ty.kinds.length F ++ Zz x.length ty.kinds.length G := fun g hg0 => by
    obtain ⟨k, hk, c, hc, hg⟩ := mem_flatF.1 hg0
    clear hg0
    rw [hlen] at hk
    rcases Nat.lt_trichotomy k i with h | h | h
    · rw [c1 k c h] at hg; exact List.mem_append_left _ (mem_flatF.2 ⟨k, by omega, c, hc, hg⟩)
    · subst h; rw [c2 c] at hg; exact List.mem_append_right _ (mem_flatF.2 ⟨0, by omega, c, hc, hg⟩)
    · rw [c3 k c h] at hg; exact List.mem_append_left _ (mem_flatF.2 ⟨k - 1, by omega, c, hc, hg⟩)
  have hnod : (Zz (l.take i ++ x ++ l.drop i).length ty.kinds.length F').Nodup := by
    rw [nodup_flatF, hlen]
    refine ⟨fun k c hk hc => ?_, fun k c k' c' hk hc hk' hc' hne g hg hg' => ?_⟩
    · rcases Nat.lt_trichotomy k i with h | h | h
      · rw [c1 k c h]; exact hFn.1 k c (by omega) hc
      · subst h; rw [c2 c]; exact hGn.1 0 c (by omega) hc
      · rw [c3 k c h]; exact hFn.1 _ c (by omega) hc
    · rcases Nat.lt_trichotomy k i with h | h | h <;> rcases Nat.lt_trichotomy k' i with h' | h' | h'
      · rw [c1 k c h] at hg; rw [c1 k' c' h'] at hg'; exact hFn.2 k c k' c' (by omega) hc (by omega) hc' hne g hg hg'
      · subst h'; rw [c1 k c h] at hg; rw [c2 c'] at hg'; exact hFG k c c' g (by omega) hc hc' hg hg'
      · rw [c1 k c h] at hg; rw [c3 k' c' h'] at hg'; exact hFn.2 k c (k' - 1) c' (by omega) hc (by omega) hc' (.inl (by omega)) g hg hg'
      · subst h; rw [c2 c] at hg; rw [c1 k' c' h'] at hg'; exact hFG k' c' c g (by omega) hc' hc hg' hg
      · subst h; subst h'; rw [c2 c] at hg; rw [c2 c'] at hg'; exact hGn.2 0 c 0 c' (by omega) hc (by omega) hc' (.inr (by rcases hne with e | e; exact absurd rfl e; exact e)) g hg hg'
      · subst h; rw [c2 c] at hg; rw [c3 k' c' h'] at hg'; exact hFG (k' - 1) c' c g (by omega) hc' hc hg' hg
      · rw [c3 k c h] at hg; rw [c1 k' c' h'] at hg'; exact hFn.2 (k - 1) c k' c' (by omega) hc (by omega) hc' (.inl (by omega)) g hg hg'
      · subst h'; rw [c3 k c h] at hg; rw [c2 c'] at hg'; exact hFG (k - 1) c c' g (by omega) hc hc' hg hg'
      · rw [c3 k c h] at hg; rw [c3 k' c' h'] at hg'
        exact hFn.2 (k - 1) c (k' - 1) c' (by omega) hc (by omega) hc' (by rcases hne with e | e; exact .inl (by omega); exact .inr e) g hg hg'
  rw [hx1] at hr3
  refine Calls.mono (hI w v v3 l.length i xs ys hr hr3 (fun g hg hg' => hT3 g hg g hg' rfl) he.one he3.one hil hrb hr63) ?_
  rintro e w' ⟨v', rfl, k1, k2, k3⟩
  have hk' : KeptBut (Zp v ++ Zp v3) w w' := k2.mono fun g hg => List.mem_append_left _ hg
  have htop : ∀ g ∈ Zp v', g ∈ Zp v ++ Zp v3 ∨ w.heap.size ≤ g := fun g hg => (k3 g hg).imp (List.mem_append_left _) id
  exact ⟨v', rfl, ZjW ht (by rw [hlen]; exact k1) (ZjV hel hsub hnd hok hlt hk' htop) hO hnd hlt hsub hnod hk' htop⟩
def enDel (hB : Base P tab) {f : FuncId} {fn : Func} (hf : P.funcs[f]? = some fn) (hb : (!(fn.name == "runtime.NumGoroutine") && fn.body.isSome) = true) (T : TypeId) {ty : Ty} (ht : tab T = some ty) (own : Bool) (hD : ZhU P f T ty.kinds.length) (hS : ZfB P f) (par : List (Option TypeId)) (hne : Nat.beq T ZbG = false := by rfl) : En P tab :=
  { f := f
    s := fun a => bif Zbq [.one (.rr T own), .one (.int .i64), .one (.int .i64)] a then some ((ZfC (rd a 0).L (rd a 1).I (rd a 2).I).isSome, (V.rr T own ((ZfC (rd a 0).L (rd a 1).I (rd a 2).I).getD default), [V.dead])) else none
    ok := by
      intro args r h
      cases hs : Zbq [.one (.rr T own), .one (.int .i64), .one (.int .i64)] args with
      | false => rw [hs] at h; cases h
      | true =>
        rw [hs] at h
        simp only [cond_true, Option.some.injEq, Prod.mk.injEq] at h
        obtain ⟨h1, h2⟩ := h
        obtain ⟨x, hx⟩ := Option.isSome_iff_exists.1 h1
        rw [hx] at h2
        have ha := Zdi (pre := []) hs
        simp only [List.nil_append, List.length_nil, Zdy, S2.mk, S1.mk] at ha
        rw [← ha, ← h2]
        exact Zox ht hD hS hx fun e => by rw [e, Nat.beq_refl] at hne; cases hne
    en := Zcj hf hb, par := par, wr := true }
def enIns (hB : Base P tab) {f : FuncId} {fn : Func} (hf : P.funcs[f]? = some fn) (hb : (!(fn.name == "runtime.NumGoroutine") && fn.body.isSome) = true) (T : TypeId) {ty : Ty} (ht : tab T = some ty) (own : Bool) (bytes : Nat) (hbytes : ty.bytes = bytes) (hI : ZhV P f T ty.kinds.length ty.bytes) (par : List (Option TypeId)) : En P tab :=
  { f := f
    s := fun a => bif Zbq [.one (.rr T own), .one (.int .i64), .one (.rr T own)] a then some ((Zfh bytes (rd a 0).L (rd a 1).I (rd a 2).L).isSome, (V.rr T own ((Zfh bytes (rd a 0).L (rd a 1).I (rd a 2).L).getD default), [V.dead, V.dead])) else none
    ok := by
      intro args r h
      cases hs : Zbq [.one (.rr T own), .one (.int .i64), .one (.rr T own)] args with
      | false => rw [hs] at h; cases h
      | true =>
        rw [hs] at h
        simp only [cond_true, Option.some.injEq, Prod.mk.injEq] at h
        obtain ⟨h1, h2⟩ := h
        obtain ⟨x, hx⟩ := Option.isSome_iff_exists.1 h1
        rw [hx] at h2
        have ha := Zdi (pre := []) hs
        simp only [List.nil_append, List.length_nil, Zdy, S2.mk, S1.mk] at ha
        rw [← ha, ← h2]
        subst hbytes
        exact Zlz ht hI hx
    en := Zcj hf hb, par := par, wr := true }
end Go.Eng
namespace Go.Eng
variable {P : Program} {tab : Tab}
def ZgD (a b : List V) : Int := bif Zca (a.map Zay) (b.map Zay) then -1 else bif Zbx (a.map Zay) (b.map Zay) then 0 else 1
theorem ZgU : ∀ a b : List UInt8, Lib.compareBytes a b = if Op.bytesLess a b = true then -1 else if (a == b) = true then 0 else 1
  | [], [] => rfl
  | [], _ :: _ => rfl
  | _ :: _, [] => rfl
  | x :: a, y :: b => by
    have ih := ZgU a b
    unfold Lib.compareBytes
    simp only [Op.bytesLess, List.cons_beq_cons, Bool.or_eq_true, Bool.and_eq_true, decide_eq_true_eq]
    by_cases h1 : x < y
    · simp [h1]
    · by_cases h2 : y < x
      · have h3 : x ≠ y := fun e => h1 (e ▸ h2)
        simp [h1, h2, h3]
      · have h3 : x = y := UInt8.le_antisymm (UInt8.not_lt.1 h2) (UInt8.not_lt.1 h1)
        subst h3
        simp [ih]
theorem ZjI {w : World} {ok : Nat → Prop} {e : TypeId} {et : Ty} (he : tab e = some et) (ha : et.agg = false) (hk : et.kinds = [.int .u8]) {l : List V} {v : Value} (h : Rp tab w ok (.inl e l) v) :
    ∃ s, (Extern.Bytes.bytesOf v).run P w = .ok s w ∧ Z6 s = l.map Zay := by
  cases h with | inl _ _ ty a cap g off cv h1 h2 h3 h4 h5 h6 =>
  obtain rfl : et = ty := Option.some.inj (he.symm.trans h1)
  by_cases hl : l = []
  · subst hl
    cases a with
    | none => exact ⟨.empty, by simp [Extern.Bytes.bytesOf], rfl⟩
    | some a => exact ⟨.empty, by simp [Extern.Bytes.bytesOf, Extern.Bytes.loadBytes], rfl⟩
  · obtain ⟨rfl, -⟩ := h3 hl
    have hel : ∀ i, i < l.length → cv i 0 = .int .u8 ((l.getD i .dead).I) := fun i hi => by
      have hs := h4 i hi
      have hc0 : (l.getD i .dead).cell 0 = l.getD i .dead := by
        have hna := hs.2.2.1 ha
        cases hx : l.getD i .dead <;> first | rfl | exact absurd hx (hna _)
      have hkk := hs.2.2.2 0 (by rw [hk]; exact Nat.one_pos)
      have hr := h6 i 0 hi (by rw [hk]; exact Nat.one_pos)
      rw [hk] at hkk
      rw [hc0] at hkk hr
      cases hx : l.getD i .dead <;> rw [hx] at hkk hr <;> simp [kindOk] at hkk
      subst hkk
      rw [hr.int_eq]; rfl
    have hcell : ∀ j x, (l.map V.I)[j]? = some x → w.cell? ((⟨g, off, none⟩ : Addr).add j) = some (.int .u8 x) := fun j x hj => by
      have hlt : j < l.length := by have := (List.getElem?_eq_some_iff.1 hj).1; simpa using this
      have := h5 j 0 hlt (by rw [hk]; exact Nat.one_pos)
      rw [hk] at this
      rw [Addr.add_none]
      simp only [List.length_cons, List.length_nil, Nat.zero_add, Nat.mul_one, Nat.add_zero] at this
      rw [this, hel j hlt]
      have e2 := (List.getElem?_eq_some_iff.1 hj).2
      simp at e2
      rw [← e2]; simp [List.getD, hlt]
    have hrun := Lib.run_loadBytesX (P := P) w (l.map V.I) ⟨g, off, none⟩ .empty hcell
    rw [List.length_map] at hrun
    refine ⟨_, by simp only [Extern.Bytes.bytesOf]; exact hrun, ?_⟩
    simp only [Z6, Lib.bytesOf]
    simp
    intro x _
    simp [Zay]
theorem cmp_spec {a b : ByteArray} {x y : List V} (ha : Z6 a = x) (hb : Z6 b = y) : Extern.BytealgCompare.cmp a b = bif Zca x y then -1 else bif Zbx x y then 0 else 1 := by
  rw [Lib.cmp_eq, ZgU, ← ha, ← hb, ZmA, Zif]
  simp only [Bool.cond_eq_ite]
def CmpOk (P : Program) (f : FuncId) : Prop := ∀ (v1 v2 : Value) (c : Int) (w : World), (Extern.BytealgCompare.compare #[v1, v2]).run P w = .ok (.int .i64 c) w → Calls P f #[v1, v2] w fun e w' => e = .returned (.int .i64 c) ∧ KeptBut [] w w'
theorem rq_inl {w : World} {ok : Nat → Prop} {T : TypeId} {l : List V} {v : Value} {t n : List Nat} (h : Rq2 tab w ok (.inl T l) v t n) : Rp tab w ok (.inl T l) v ∧ t = [] ∧ n = [] := by
  cases h with | one h => cases h with | tree h => exact ⟨h, rfl, rfl⟩
theorem Zoy {f : FuncId} {e : TypeId} {et : Ty} (he : tab e = some et) (ha : et.agg = false) (hk : et.kinds = [.int .u8]) (hC : CmpOk P f) (a b : List V) : SumOk P tab f [.inl e a, .inl e b] (.int .i64 (ZgD a b), []) := by
  intro w ok vals t n hrq hnd hok hlt
  cases hrq with | @cons _ v t1 n1 _ vs1 ts1 ns1 hx hxs =>
  cases hxs with | @cons _ v2 t2 n2 _ vs2 ts2 ns2 hx2 hxs =>
  cases hxs
  obtain ⟨r1, rfl, rfl⟩ := rq_inl hx
  obtain ⟨r2, rfl, rfl⟩ := rq_inl hx2
  obtain ⟨s1, e1, e2⟩ := ZjI (P := P) he ha hk r1
  obtain ⟨s2, e3, e4⟩ := ZjI (P := P) he ha hk r2
  have hrun : (Extern.BytealgCompare.compare #[v, v2]).run P w = .ok (.int .i64 (ZgD a b)) w := by
    change Sem.run P (do pure (goInt (Extern.BytealgCompare.cmp (← Extern.Bytes.bytesOf v) (← Extern.Bytes.bytesOf v2)))) w = _
    simp only [Sem.run_bind, e1, e3, Result.andThen_ok, Sem.run_pure]
    rw [cmp_spec e2 e4]
    rfl
  refine (hC v v2 _ w hrun).mono ?_
  rintro e' w' ⟨rfl, hkp⟩
  exact ⟨_, rfl, [], [], [], [], .one (.one (.tree (.int _ _))), .nil, by simp, by simp, by simp, by simp, hkp.mono (by simp)⟩
def enCmp (hB : Base P tab) {f : FuncId} {fn : Func} (hf : P.funcs[f]? = some fn) (hb : (!(fn.name == "runtime.NumGoroutine") && fn.body.isSome) = true) (e : TypeId) {et : Ty} (he : tab e = some et) (ha : et.agg = false) (hk : et.kinds = [.int .u8]) (hC : CmpOk P f) (par : List (Option TypeId)) : En P tab :=
  { f := f
    s := fun a => bif Zbq [.one (.inl e), .one (.inl e)] a then some (true, (V.int .i64 (ZgD (rd a 0).L (rd a 1).L), [])) else none
    ok := by
      intro args r h
      cases hs : Zbq [.one (.inl e), .one (.inl e)] args with
      | false => rw [hs] at h; cases h
      | true =>
        rw [hs] at h
        simp only [cond_true, Option.some.injEq, Prod.mk.injEq, true_and] at h
        have h2 := h
        have ha' := Zdi (pre := []) hs
        simp only [List.nil_append, List.length_nil, Zdy, S2.mk, S1.mk] at ha'
        rw [← ha', ← h2]
        exact Zoy he ha hk hC _ _
    en := Zcj hf hb, par := par, wr := false }
end Go.Eng
namespace Go.Eng
variable {P : Program} {tab : Tab}
structure Reads (P : Program) (w : World) (sz m : Nat) (v : Value) (ys : List Value) : Prop where
  len : ys.length = m * sz
  one : ZdQ ys
  lenOf : ∀ W, (Builtin.lenOf v).run P W = .ok m W
  cells : ∀ W : World, (∀ g, g < w.heap.size → W.heap[g]? = w.heap[g]?) → (Builtin.firstCells sz m v).run P W = .ok ys.toArray W
end Go.Eng
namespace Go.Eng
end Go.Eng
namespace Go.Eng
variable {P : Program} {tab : Tab}
end Go.Eng
namespace Go.Eng
noncomputable section
variable {P : Program} {tab : Tab}
def sumsK (c d e T : Nat) : Sums := fun f args => bif Nat.beq f c then (match args with
    | [.inl e1 a, .inl e2 b] => bif Nat.beq e1 e && Nat.beq e2 e then some (true, (.int .i64 (ZgD a b), [])) else none
    | _ => none)
  else bif Nat.beq f d then (match args with
    | [.rr T1 own l, .int .i64 i, .int .i64 j] => bif Nat.beq T1 T then (match ZfC l i j with | some r => some (true, (.rr T own r, [.dead])) | none => none) else none
    | _ => none)
  else none
theorem sumsK_ok {c d e T : Nat} {et ty : Ty} (he : tab e = some et) (ha : et.agg = false) (hk : et.kinds = [.int .u8]) (hC : CmpOk P c) (hcE : ZfU P c) (ht : tab T = some ty) (hD : ZhU P d T ty.kinds.length) (hS : ZfB P d) (hdE : ZfU P d) (hne : Nat.beq T ZbG = false := by rfl) : Zbh P tab (sumsK c d e T) := by
  intro f args r h
  unfold sumsK at h
  cases hc : Nat.beq f c with
  | true =>
    obtain rfl := Nat.eq_of_beq_eq_true hc
    rw [hc, cond_true] at h
    split at h
    · rename_i e1 a e2 b
      cases hq : (Nat.beq e1 e && Nat.beq e2 e) with
      | false => rw [hq] at h; cases h
      | true =>
        rw [hq] at h
        cases h
        rw [Bool.and_eq_true] at hq
        obtain rfl := Nat.eq_of_beq_eq_true hq.1
        obtain rfl := Nat.eq_of_beq_eq_true hq.2
        exact ⟨hcE, Zoy he ha hk hC a b⟩
    · cases h
  | false =>
    rw [hc, cond_false] at h
    cases hd : Nat.beq f d with
    | false => rw [hd] at h; cases h
    | true =>
      obtain rfl := Nat.eq_of_beq_eq_true hd
      rw [hd, cond_true] at h
      split at h
      · rename_i T1 own l i j
        cases hq : Nat.beq T1 T with
        | false => rw [hq] at h; cases h
        | true =>
          rw [hq, cond_true] at h
          obtain rfl := Nat.eq_of_beq_eq_true hq
          split at h
          · rename_i x hx
            cases h
            exact ⟨hdE, Zox ht hD hS hx fun e => by rw [e, Nat.beq_refl] at hne; cases hne⟩
          · cases h
      · cases h
def cfgK (tab : Tab) (c d e T : Nat) : Cfg := { tab := tab, sums := sumsK c d e T, mutf := fun f => Nat.beq f d }
def enB {f : FuncId} {fn : Func} (hf : P.funcs[f]? = some fn) (hb : (!(fn.name == "runtime.NumGoroutine") && fn.body.isSome) = true) {b : Bool} (h : SumOk P tab f [] (.bool b, [])) : En P tab :=
  { f := f
    s := fun a => bif a.isEmpty then some (true, (V.bool b, [])) else none
    ok := by
      intro args r hr
      cases args with
      | nil => cases hr; exact h
      | cons _ _ => cases hr
    en := Zcj hf hb, par := [], wr := false }
theorem run_sum {cfg : Cfg} (hT : Zx P cfg.tab) (hS : Zbh P cfg.tab cfg.sums) (hmix : P.follows .mixedOrders = true) {il fl cl : List Nat} {cnf : Nat → ZeA} (hil : fnsB P il = true) (hfl : fnsB P fl = true) {m k : Nat} {cn : ZeA} {f : FuncId} {fn : Func} (hf : P.funcs[f]? = some fn) (hok : fnOk fn = true) {args : List V} (hlen : Nat.ble args.length fn.ntmps = true) {n : Nat} {r : V × List V}
    (h : Zc8 { cfg with sums := ZeY P cfg (ZgT P il) fl cl cnf m k } (ZgT P il) cn n fn args = some r) : SumOk P cfg.tab f args r := by
  simp only [fnOk, Bool.and_eq_true] at hok
  have hb : fn.body = some (ZY fn) := by
    unfold ZY
    cases hq : fn.body with
    | none => rw [hq] at hok; simp at hok
    | some c => rfl
  exact ZiF (cfg := { cfg with sums := ZeY P cfg (ZgT P il) fl cl cnf m k }) hT (ZkT hT hS hmix (ZiG hil) hfl cl cnf m k) hmix (ZiG hil) hf hb hok.2 (Nat.le_of_ble_eq_true hlen) h
end
end Go.Eng
namespace Go.Eng
def nlt (a b : List V) : Bool := Zca (a.map Zay) (b.map Zay)
def neq (a b : List V) : Bool := Zbx (a.map Zay) (b.map Zay)
def Zq (a : List V) : List Int := a.map fun x => ((x.I.toNat % 256 : Nat) : Int)
theorem Zcu : ∀ a b : List V, neq a b = decide (Zq a = Zq b)
  | [], [] => rfl
  | [], _ :: _ => rfl
  | _ :: _, [] => rfl
  | x :: a, y :: b => by
    have ih := Zcu a b
    simp only [neq, Zq, List.map_cons, Zbx, Zay, V.I, List.cons.injEq] at ih ⊢
    rw [ih]
    by_cases h : ((x.I.toNat % 256 : Nat) : Int) = ((y.I.toNat % 256 : Nat) : Int) <;> simp
def ltC : List Int → List Int → Bool
  | _, [] => false
  | [], _ :: _ => true
  | a :: x, b :: y => decide (a < b) || (decide (a = b) && ltC x y)
theorem Zc9 : ∀ a b : List V, nlt a b = ltC (Zq a) (Zq b)
  | [], [] => rfl
  | [], _ :: _ => rfl
  | _ :: _, [] => rfl
  | x :: a, y :: b => by
    have ih := Zc9 a b
    show (decide ((Zay x).I < (Zay y).I) || (decide ((Zay x).I = (Zay y).I) && nlt a b)) = ltC (Zq (x :: a)) (Zq (y :: b))
    rw [ih]
    rfl
theorem Zoz : ∀ a, ltC a a = false
  | [] => rfl
  | x :: a => by simp [ltC, Zoz a]
theorem ZlW : ∀ a b c, ltC a b = true → ltC b c = true → ltC a c = true
  | _, [], _, h, _ => by cases ‹List Int› <;> simp [ltC] at h
  | _, _ :: _, [], _, h => by simp [ltC] at h
  | [], _ :: _, _ :: _, _, _ => rfl
  | x :: a, y :: b, z :: c, h1, h2 => by
    simp only [ltC, Bool.or_eq_true, Bool.and_eq_true, decide_eq_true_eq] at h1 h2 ⊢
    rcases h1 with h1 | ⟨rfl, h1⟩ <;> rcases h2 with h2 | ⟨rfl, h2⟩
    · exact .inl (by omega)
    · exact .inl h1
    · exact .inl h2
    · exact .inr ⟨rfl, ZlW a b c h1 h2⟩
theorem ZoA : ∀ a b, ltC a b = false → ltC b a = false → a = b
  | [], [], _, _ => rfl
  | [], _ :: _, h, _ => by simp [ltC] at h
  | _ :: _, [], _, h => by simp [ltC] at h
  | x :: a, y :: b, h1, h2 => by
    simp only [ltC, Bool.or_eq_false_iff, decide_eq_false_iff_not, Bool.and_eq_false_iff] at h1 h2
    obtain rfl : x = y := by omega
    rcases h1.2 with h | h
    · exact absurd rfl h
    · rcases h2.2 with h' | h'
      · exact absurd rfl h'
      · rw [ZoA a b h h']
theorem ZiI {a b c : List V} (h1 : nlt a b = true) (h2 : nlt b c = true) : nlt a c = true := by rw [Zc9] at *; exact ZlW _ _ _ h1 h2
theorem Zi7 {a b : List V} (h : nlt a b = true) : neq a b = false := by
  rw [Zc9] at h
  rw [Zcu, decide_eq_false_iff_not]
  intro e
  rw [e, Zoz] at h; cases h
theorem Zn3 {a b c : List V} (h : neq b c = true) : nlt a b = nlt a c := by
  rw [Zcu, decide_eq_true_eq] at h
  rw [Zc9, Zc9, h]
theorem nlt_tri {a b : List V} (h1 : nlt a b = false) (h2 : neq a b = false) : nlt b a = true := by
  cases h : nlt b a with
  | true => rfl
  | false =>
    rw [Zc9] at h h1
    rw [Zcu, decide_eq_false_iff_not] at h2
    exact absurd (ZoA _ _ h1 h) h2
theorem cmpV_neg (a b : List V) : decide (ZgD a b < 0) = nlt a b := by
  show decide ((bif nlt a b then (-1 : Int) else bif neq a b then 0 else 1) < 0) = _
  cases nlt a b <;> cases neq a b <;> rfl
theorem Zn4 (a b : List V) : decide ((0 : Int) ≤ ZgD a b) = !nlt a b := by
  show decide ((0 : Int) ≤ (bif nlt a b then (-1 : Int) else bif neq a b then 0 else 1)) = _
  cases nlt a b <;> cases neq a b <;> rfl
theorem ZpU (a b : List V) : decide (ZgD a b = 0) = (!nlt a b && neq a b) := by
  show decide ((bif nlt a b then (-1 : Int) else bif neq a b then 0 else 1) = 0) = _
  cases nlt a b <;> cases neq a b <;> rfl
theorem Zpa (a b : List V) : decide (ZgD a b = 0) = neq a b := by
  rw [ZpU]
  cases h : neq a b with
  | false => simp
  | true =>
    cases h' : nlt a b with
    | false => rfl
    | true => rw [Zi7 h'] at h; cases h
theorem wr_mid {i j : Nat} (h : i + j < 9223372036854775808) : IntKind.i64.wrap (ZeQ .u64 (IntKind.u64.wrap (IntKind.i64.wrap ((i : Int) + (j : Int)))) 1) = (((i + j) / 2 : Nat) : Int) := by
  rw [Zap (n := (i : Int) + (j : Int)) (by omega) (by omega)]
  have hu : IntKind.u64.wrap ((i : Int) + (j : Int)) = (i : Int) + (j : Int) := by
    have := IntWalk.u64_in ((i : Int) + (j : Int)) (by omega)
    exact this
  rw [hu]
  have : ZeQ .u64 ((i : Int) + (j : Int)) 1 = (((i + j) / 2 : Nat) : Int) := by
    unfold ZeQ
    rw [show ((2 : Int) ^ (min (1 : Int).toNat IntKind.u64.bits)) = 2 from by decide, Int.fdiv_eq_ediv_of_nonneg _ (by omega)]
    omega
  rw [this, Zap (by omega) (by omega)]
theorem Zi8 {ρ : Type} {F : Nat → Int → Int → ρ} {x : List V} {p : V → Bool} {n0 : Nat} {out : Int → ρ} (hx : x.length < 4611686018427387904) (hp : ∀ i, i < x.length → p (rd x i) = decide (i < n0))
    (h1 : ∀ m (i j : Nat), i < j → j ≤ x.length → F (m + 1) (i : Int) (j : Int) = bif p (rd x ((i + j) / 2)) then F m (((i + j) / 2 + 1 : Nat) : Int) (j : Int) else F m (i : Int) (((i + j) / 2 : Nat) : Int)) (h0 : ∀ m (i : Nat), F (m + 1) (i : Int) (i : Int) = out (i : Int)) :
    ∀ m (i j : Nat), i ≤ n0 → n0 ≤ j → j ≤ x.length → j - i < m → F m (i : Int) (j : Int) = out (n0 : Int)
  | 0, i, j, _, _, _, h => by omega
  | m + 1, i, j, hi, hj, hl, hm => by
    rcases Nat.lt_or_ge i j with h | h
    · rw [h1 m i j h hl, hp _ (by omega)]
      by_cases hc : (i + j) / 2 < n0
      · rw [decide_eq_true hc, cond_true]
        exact Zi8 hx hp h1 h0 m _ j (by omega) hj hl (by omega)
      · rw [decide_eq_false hc, cond_false]
        exact Zi8 hx hp h1 h0 m i _ hi (by omega) (by omega) (by omega)
    · obtain rfl : i = j := by omega
      obtain rfl : n0 = i := by omega
      exact h0 m n0
theorem Zd5 {ρ : Type} {F : Nat → Int → ρ} {n : Nat} {q : Nat → Bool} {yes no : ρ}
    (h1 : ∀ m (i : Nat), i < n → F (m + 1) (i : Int) = bif q i then F m ((i + 1 : Nat) : Int) else no) (h0 : ∀ m, F (m + 1) (n : Int) = yes) :
    F (n + 1) 0 = bif (List.range n).all q then yes else no := by
  refine Zdj (F := fun m (_ : Unit) i => F m i) (n := n) (fun i _ => (List.range i).all q = true) (fun o => o = bif (List.range n).all q then yes else no) ?_ ?_ (s := ()) (by simp)
  · intro m i s hi hI
    rw [h1 m i hi]
    cases hp : q i with
    | true =>
      refine .inl ⟨(), rfl, ?_⟩
      rw [List.range_succ, List.all_append, hI]; simp [hp]
    | false =>
      refine .inr ?_
      have : (List.range n).all q = false := by
        rw [List.all_eq_false]
        exact ⟨i, List.mem_range.2 hi, by simp [hp]⟩
      rw [this]; rfl
  · intro m s hI
    show F (m + 1) (n : Int) = _
    rw [hI]; exact h0 m
def Zr (q : Nat → Bool) : Nat → Nat → Option Nat
  | _, 0 => none
  | i, k + 1 => bif q i then some i else Zr q (i + 1) k
theorem Zdk {ρ : Type} {F : Nat → Int → ρ} {n : Nat} {q : Nat → Bool} {no : ρ} {out : Int → ρ}
    (h1 : ∀ m (i : Nat), i < n → F (m + 1) (i : Int) = bif q i then out (i : Int) else F m ((i + 1 : Nat) : Int)) (h0 : ∀ m, F (m + 1) (n : Int) = no) :
    ∀ m (i : Nat), i ≤ n → n - i < m → F m (i : Int) = match Zr q i (n - i) with | some j => out (j : Int) | none => no
  | 0, i, _, h => by omega
  | m + 1, i, hi, hm => by
    rcases Nat.lt_or_ge i n with h | h
    · rw [h1 m i h, show n - i = (n - (i + 1)) + 1 from by omega, Zr]
      cases q i with
      | true => rfl
      | false => exact Zdk h1 h0 m (i + 1) (by omega) (by omega)
    · obtain rfl : i = n := by omega
      rw [Nat.sub_self, Zr]; exact h0 m
theorem firstI_none {q : Nat → Bool} : ∀ {k i : Nat}, Zr q i k = none ↔ ∀ j, i ≤ j → j < i + k → q j = false
  | 0, i => by simp [Zr]; omega
  | k + 1, i => by
    rw [Zr]
    cases hq : q i with
    | true => simp; exact ⟨i, Nat.le_refl _, by omega, hq⟩
    | false =>
      rw [cond_false, firstI_none]
      constructor
      · intro h j h1 h2
        rcases Nat.eq_or_lt_of_le h1 with rfl | h3
        · exact hq
        · exact h j h3 (by omega)
      · exact fun h j h1 h2 => h j (by omega) (by omega)
theorem ZX {q : Nat → Bool} : ∀ {k i j : Nat}, Zr q i k = some j → i ≤ j ∧ j < i + k ∧ q j = true ∧ ∀ t, i ≤ t → t < j → q t = false
  | 0, i, j, h => by simp [Zr] at h
  | k + 1, i, j, h => by
    rw [Zr] at h
    cases hq : q i with
    | true =>
      rw [hq, cond_true] at h
      cases h
      exact ⟨Nat.le_refl _, by omega, hq, fun t h1 h2 => by omega⟩
    | false =>
      rw [hq, cond_false] at h
      obtain ⟨a, b, c, d⟩ := ZX h
      refine ⟨by omega, by omega, c, fun t h1 h2 => ?_⟩
      rcases Nat.eq_or_lt_of_le h1 with rfl | h3
      · exact hq
      · exact d t h3 h2
def lbN (nm : V → List V) (l : List V) (t : List V) : Nat := (l.takeWhile fun x => nlt (nm x) t).length
def AscN (nm : V → List V) (l : List V) : Prop := ∀ i, i + 1 < l.length → nlt (nm (rd l i)) (nm (rd l (i + 1))) = true
theorem AscN.lt {nm : V → List V} {l : List V} (h : AscN nm l) : ∀ {j i : Nat}, i < j → j < l.length → nlt (nm (rd l i)) (nm (rd l j)) = true
  | 0, i, h1, _ => by omega
  | j + 1, i, h1, h2 => by
    rcases Nat.eq_or_lt_of_le (Nat.le_of_lt_succ h1) with rfl | h3
    · exact h i h2
    · exact ZiI (h.lt h3 (by omega)) (h j h2)
theorem ZdT {l : List V} {i : Nat} (h : i < l.length) : rd l i = l[i] := by simp [rd, List.getD, h]
theorem Zhq {l : List V} {p : V → Bool} : (∀ i, i < (l.takeWhile p).length → p (rd l i) = true) ∧ ((l.takeWhile p).length < l.length → p (rd l (l.takeWhile p).length) = false) ∧ (l.takeWhile p).length ≤ l.length := by
  induction l with
  | nil => simp
  | cons x l ih =>
    obtain ⟨h1, h2, h3⟩ := ih
    rw [List.takeWhile_cons]
    cases hp : p x with
    | false => simp [rd, hp]
    | true =>
      simp only [if_true, List.length_cons]
      refine ⟨fun i hi => ?_, fun hlt => ?_, by omega⟩
      · cases i with
        | zero => simpa [rd] using hp
        | succ i => exact h1 i (by omega)
      · exact h2 (by omega)
theorem Zhr (nm : V → List V) (l : List V) (t : List V) : lbN nm l t ≤ l.length := (Zhq (l := l)).2.2
theorem ZgE {nm : V → List V} {l : List V} (h : AscN nm l) (t : List V) : ∀ i, i < l.length → nlt (nm (rd l i)) t = decide (i < lbN nm l t) := by
  intro i hi
  obtain ⟨h1, h2, h3⟩ := Zhq (l := l) (p := fun x => nlt (nm x) t)
  by_cases hc : i < lbN nm l t
  · rw [decide_eq_true hc]; exact h1 i hc
  · rw [decide_eq_false hc]
    have h2 := h2 (by unfold lbN at hc; omega)
    rcases Nat.eq_or_lt_of_le (Nat.le_of_not_lt hc) with e | hlt
    · rw [← e]; exact h2
    · have hl : nlt (nm (rd l (lbN nm l t))) (nm (rd l i)) = true := h.lt hlt hi
      cases hh : nlt (nm (rd l i)) t with
      | false => rfl
      | true => have := ZiI hl hh; rw [show nlt (nm (rd l (lbN nm l t))) t = false from h2] at this; cases this
def Zcv (nm : V → List V) (l : List V) (t : List V) : Bool := decide (lbN nm l t < l.length) && neq (nm (rd l (lbN nm l t))) t
theorem Zna {nm : V → List V} {l : List V} (h : AscN nm l) (t : List V) : Zr (fun i => neq (nm (rd l i)) t) 0 l.length = bif Zcv nm l t then some (lbN nm l t) else none := by
  have hs := ZgE h t
  have hle := Zhr nm l t
  cases hf : Zr (fun i => neq (nm (rd l i)) t) 0 l.length with
  | none =>
    rw [firstI_none] at hf
    have : Zcv nm l t = false := by
      unfold Zcv
      by_cases hc : lbN nm l t < l.length
      · rw [hf _ (by omega) (by omega)]; simp
      · simp [hc]
    rw [this]; rfl
  | some j =>
    obtain ⟨-, hj, hq, hb⟩ := ZX hf
    have hj : j < l.length := by omega
    have hnl : nlt (nm (rd l j)) t = false := by
      cases hh : nlt (nm (rd l j)) t with
      | false => rfl
      | true => rw [Zi7 hh] at hq; cases hq
    rw [hs j hj, decide_eq_false_iff_not] at hnl
    have hjl : j = lbN nm l t := by
      rcases Nat.eq_or_lt_of_le (Nat.le_of_not_lt hnl) with e | hlt
      · exact e.symm
      · have := h.lt hlt hj
        rw [Zn3 hq, hs _ (by omega), decide_eq_true_eq] at this
        omega
    have : Zcv nm l t = true := by
      unfold Zcv
      rw [← hjl]; simp [hj, hq]
    rw [this, hjl]; rfl
end Go.Eng
namespace Go.Eng
section
variable {P : Program} {tab : Tab}
theorem RowT.soft {w : World} {ok : Nat → Prop} {T : TypeId} {els : List V} {v : Value} {nest : List Nat} (h : RowT tab w ok T true els v nest) : RowT tab w (fun g => ok g ∨ g ∈ nest) T false els v [] := by
  obtain ⟨ty, xs, ht, hr, hs, he⟩ := h
  rcases he with ⟨-, F, rfl, he⟩ | ⟨ho, -⟩
  · exact ⟨ty, xs, ht, hr, hs, .inr ⟨rfl, rfl, fun i j hi hj => (he i j hi hj).tree fun g hg => .inr (mem_flatF.2 ⟨i, hi, j, hj, hg⟩)⟩⟩
  · cases ho
theorem Zk8 {w w' : World} {ok : Nat → Prop} {args args' : List V} {vals : List Value} {t n m n' : List Nat} {r : V × List V} {val : Value}
    (h : Zky tab w (fun g => ok g ∨ g ∈ m) args vals t n r val w') (hn : ∀ g, g ∈ n ∨ g ∈ m → g ∈ n')
    (hO : ∀ (R : V → Value → List Nat → List Nat → Prop) ot on, OutL R (Zbo args vals) r.2 ot on → OutL R (Zbo args' vals) r.2 ot on) : Zky tab w ok args' vals t n' r val w' := by
  obtain ⟨rt, rn, ot, on, h1, h2, h3, h4, h5, h6, h7⟩ := h
  have hk : ∀ g, (((ok g ∨ g ∈ m) ∨ g ∈ t ++ n ∨ w.heap.size ≤ g) ∧ g < w'.heap.size ∧ g ∉ ot ++ rt) → ((ok g ∨ g ∈ t ++ n' ∨ w.heap.size ≤ g) ∧ g < w'.heap.size ∧ g ∉ ot ++ rt) := by
    rintro g ⟨a, b, c⟩
    refine ⟨?_, b, c⟩
    rcases a with (a | a) | a | a
    · exact .inl a
    · exact .inr (.inl (List.mem_append_right _ (hn g (.inr a))))
    · rcases List.mem_append.1 a with a | a
      · exact .inr (.inl (List.mem_append_left _ a))
      · exact .inr (.inl (List.mem_append_right _ (hn g (.inl a))))
    · exact .inr (.inr a)
  refine ⟨rt, rn, ot, on, h1.keep hk, hO _ _ _ (h2.mono fun y _ v t n hy => hy.keep hk), h3, h4, fun g hg => ?_, h6, h7⟩
  rcases h5 g hg with a | a
  · rcases List.mem_append.1 a with a | a
    · exact .inl (List.mem_append_left _ a)
    · exact .inl (List.mem_append_right _ (hn g (.inl a)))
  · exact .inr a
theorem Zk9 {R : V → Value → List Nat → List Nat → Prop} {a b a' b' : V} {v u : Value} {ot on : List Nat} (h : OutL R [(a, v), (b, u)] [.dead, .dead] ot on) : OutL R [(a', v), (b', u)] [.dead, .dead] ot on := by
  cases h with | cons h1 h2 h3 =>
  cases h3 with | cons h4 h5 h6 =>
  cases h6
  exact .cons trivial h2 (.cons trivial h5 .nil)
theorem Znb {f : FuncId} {T : TypeId} {ty : Ty} {o1 o2 : Bool} {l x r : List V} {i : Int} (ht : tab T = some ty) (hI : ZhV P f T ty.kinds.length ty.bytes) (hv : Zfh ty.bytes l i x = some r) :
    SumOk P tab f [.rr T o1 l, .int .i64 i, .rr T o2 x] (.rr T (o1 && o2) r, [.dead, .dead]) := by
  have e0 := Zlz (P := P) (own := false) ht hI hv
  have e1 := Zlz (P := P) (own := true) ht hI hv
  cases o1 <;> cases o2
  · exact e0
  · intro w ok vals t n hrq hnd hok hlt
    cases hrq with | @cons _ v t1 n1 _ vs1 ts1 ns1 hx hxs =>
    cases hxs with | @cons _ v2 t2 n2 _ vs2 ts2 ns2 hx2 hxs =>
    cases hxs with | @cons _ v3 t3 n3 _ vs3 ts3 ns3 hx3 hxs =>
    cases hxs
    obtain ⟨hrow3, rfl⟩ := Zk7 hx3
    have hI1 : RqL (Rq2 tab w (fun g => ok g ∨ g ∈ n3)) [.rr T false l, .int .i64 i, .rr T false x] [v, v2, v3] (t1 ++ (t2 ++ (Zp v3 ++ []))) (n1 ++ (n2 ++ ([] ++ []))) :=
      .cons (hx.keep fun _ h => .inl h) (.cons (hx2.keep fun _ h => .inl h) (.cons (.one (.row hrow3.soft)) .nil))
    obtain ⟨hd1, hd2, hd3⟩ := List.nodup_append.1 hnd
    have hsub : (n1 ++ (n2 ++ (([] : List Nat) ++ []))).Sublist (n1 ++ (n2 ++ (n3 ++ []))) := (List.Sublist.refl _).append ((List.Sublist.refl _).append ((List.nil_sublist _).append (List.Sublist.refl _)))
    refine Calls.mono (e0 w (fun g => ok g ∨ g ∈ n3) [v, v2, v3] _ _ hI1 (((List.Sublist.refl _).append hsub).nodup hnd) (fun g hg => ?_) fun g hg => hlt g (((List.Sublist.refl _).append hsub).mem hg)) ?_
    · rcases hg with hg | hg
      · exact hok g hg
      · have hm : g ∈ n1 ++ (n2 ++ (n3 ++ [])) := by simp [hg]
        exact ⟨hlt g (List.mem_append_right _ hm), fun ht' => hd3 g ht' g hm rfl⟩
    · rintro e w' ⟨val, he, ha⟩
      exact ⟨val, he, Zk8 ha (n' := n1 ++ (n2 ++ (n3 ++ []))) (fun g hg => hg.elim (fun a => hsub.mem a) fun a => by simp [a]) fun R ot on h => Zk9 h⟩
  · intro w ok vals t n hrq hnd hok hlt
    cases hrq with | @cons _ v t1 n1 _ vs1 ts1 ns1 hx hxs =>
    cases hxs with | @cons _ v2 t2 n2 _ vs2 ts2 ns2 hx2 hxs =>
    cases hxs with | @cons _ v3 t3 n3 _ vs3 ts3 ns3 hx3 hxs =>
    cases hxs
    obtain ⟨hrow, rfl⟩ := Zk7 hx
    have hI1 : RqL (Rq2 tab w (fun g => ok g ∨ g ∈ n1)) [.rr T false l, .int .i64 i, .rr T false x] [v, v2, v3] (Zp v ++ (t2 ++ (t3 ++ []))) ([] ++ (n2 ++ (n3 ++ []))) :=
      .cons (.one (.row hrow.soft)) (.cons (hx2.keep fun _ h => .inl h) (.cons (hx3.keep fun _ h => .inl h) .nil))
    obtain ⟨hd1, hd2, hd3⟩ := List.nodup_append.1 hnd
    have hsub : (([] : List Nat) ++ (n2 ++ (n3 ++ []))).Sublist (n1 ++ (n2 ++ (n3 ++ []))) := (List.nil_sublist _).append (List.Sublist.refl _)
    refine Calls.mono (e0 w (fun g => ok g ∨ g ∈ n1) [v, v2, v3] _ _ hI1 (((List.Sublist.refl _).append hsub).nodup hnd) (fun g hg => ?_) fun g hg => hlt g (((List.Sublist.refl _).append hsub).mem hg)) ?_
    · rcases hg with hg | hg
      · exact hok g hg
      · have hm : g ∈ n1 ++ (n2 ++ (n3 ++ [])) := List.mem_append_left _ hg
        exact ⟨hlt g (List.mem_append_right _ hm), fun ht' => hd3 g ht' g hm rfl⟩
    · rintro e w' ⟨val, he, ha⟩
      exact ⟨val, he, Zk8 ha (n' := n1 ++ (n2 ++ (n3 ++ []))) (fun g hg => hg.elim (fun a => hsub.mem a) fun a => List.mem_append_left _ a) fun R ot on h => Zk9 h⟩
  · exact e1
def enIns2 (hB : Base P tab) {f : FuncId} {fn : Func} (hf : P.funcs[f]? = some fn) (hb : (!(fn.name == "runtime.NumGoroutine") && fn.body.isSome) = true) (T : TypeId) {ty : Ty} (ht : tab T = some ty) (o1 o2 : Bool) (bytes : Nat) (hbytes : ty.bytes = bytes) (hI : ZhV P f T ty.kinds.length ty.bytes) (par : List (Option TypeId)) : En P tab :=
  { f := f
    s := fun a => bif Zbq [.one (.rr T o1), .one (.int .i64), .one (.rr T o2)] a then some ((Zfh bytes (rd a 0).L (rd a 1).I (rd a 2).L).isSome, (V.rr T (o1 && o2) ((Zfh bytes (rd a 0).L (rd a 1).I (rd a 2).L).getD default), [V.dead, V.dead])) else none
    ok := by
      intro args r h
      cases hs : Zbq [.one (.rr T o1), .one (.int .i64), .one (.rr T o2)] args with
      | false => rw [hs] at h; cases h
      | true =>
        rw [hs] at h
        simp only [cond_true, Option.some.injEq, Prod.mk.injEq] at h
        obtain ⟨h1, h2⟩ := h
        obtain ⟨x, hx⟩ := Option.isSome_iff_exists.1 h1
        rw [hx] at h2
        have ha := Zdi (pre := []) hs
        simp only [List.nil_append, List.length_nil, Zdy, S2.mk, S1.mk] at ha
        rw [← ha, ← h2]
        subst hbytes
        exact Znb ht hI hx
    en := Zcj hf hb, par := par, wr := true }
end
end Go.Eng
open Go Go.Eng
namespace Go.Eng.R
def chunks : List (List (Option Ty)) := [
  [none,
   some ⟨[.fn], false, none, [], 8⟩,
   some ⟨[.int .i64], false, none, [], 8⟩,
   some ⟨[.int .i64], false, none, [], 8⟩,
   some ⟨[.bool], false, none, [], 1⟩,
   some ⟨[.int .u8], false, none, [], 1⟩,
   some ⟨[.int .u8], false, none, [], 1⟩,
   some ⟨[.int .i64, .int .i64, .bool, .int .u8], true, none, [(0, 2), (1, 3), (2, 4), (3, 6)], 24⟩,
   some ⟨[.int .i64, .int .i64, .bool, .int .u8], true, none, [(0, 2), (1, 3), (2, 4), (3, 6)], 24⟩,
   some ⟨[.str], false, none, [], 16⟩,
   some ⟨[.str], false, none, [], 16⟩,
   some ⟨[.str], false, none, [], 16⟩,
   some ⟨[.int .u64], false, none, [], 8⟩,
   some ⟨[.str, .int .u64], true, none, [(0, 9), (1, 12)], 24⟩,
   some ⟨[.str, .int .u64], true, none, [(0, 9), (1, 12)], 24⟩,
   some ⟨[.ptr], false, none, [], 8⟩],
  [some ⟨[.ptr], false, none, [], 8⟩,
   some ⟨[.ptr], false, none, [], 8⟩,
   some ⟨[.ptr], true, none, [(0, 17)], 8⟩,
   some ⟨[.ptr], true, none, [(0, 17)], 8⟩,
   none,
   some ⟨[.int .i32], false, none, [], 4⟩,
   some ⟨[.sl 5], false, some 5, [], 24⟩,
   some ⟨[.sl 55], false, some 55, [], 24⟩,
   some ⟨[.sl 98], false, some 98, [], 24⟩,
   some ⟨[.sl 53], false, some 53, [], 24⟩,
   some ⟨[.sl 57], false, some 57, [], 24⟩,
   some ⟨[.int .i64, .sl 55, .sl 98, .int .i64, .sl 53, .sl 57], true, none, [(0, 3), (1, 23), (2, 24), (3, 3), (4, 25), (5, 26)], 112⟩,
   some ⟨[.int .i64, .sl 55, .sl 98, .int .i64, .sl 53, .sl 57], true, none, [(0, 3), (1, 23), (2, 24), (3, 3), (4, 25), (5, 26)], 112⟩,
   some ⟨[.int .i64, .sl 5, .sl 5, .int .i64], true, none, [(0, 3), (1, 22), (2, 22), (3, 3)], 64⟩,
   some ⟨[.int .i64, .sl 5, .sl 5, .int .i64], true, none, [(0, 3), (1, 22), (2, 22), (3, 3)], 64⟩,
   some ⟨[.int .i64, .int .i64, .int .i64, .sl 5, .sl 5, .int .i64], true, none, [(0, 3), (1, 3), (2, 30)], 80⟩],
  [some ⟨[.int .i64, .int .i64, .int .i64, .sl 5, .sl 5, .int .i64], true, none, [(0, 3), (1, 3), (2, 30)], 80⟩,
   none,
   some ⟨[.fn], false, none, [], 8⟩,
   some ⟨[.int .i64, .int .i64], true, none, [(0, 3), (1, 3)], 16⟩,
   some ⟨[.int .i64, .int .i64], true, none, [(0, 3), (1, 3)], 16⟩,
   none,
   some ⟨[.fn], false, none, [], 8⟩,
   some ⟨[.fn], false, none, [], 8⟩,
   some ⟨[.int .i64, .bool, .sl 5], true, none, [(0, 3), (1, 4), (2, 22)], 40⟩,
   some ⟨[.int .i64, .bool, .sl 5], true, none, [(0, 3), (1, 4), (2, 22)], 40⟩,
   some ⟨[.fn], false, none, [], 8⟩,
   some ⟨[.fn], false, none, [], 8⟩,
   some ⟨[.fn], false, none, [], 8⟩,
   none,
   some ⟨[.fn], false, none, [], 8⟩,
   none],
  [some ⟨[.fn], false, none, [], 8⟩,
   some ⟨[.fn], false, none, [], 8⟩,
   some ⟨[.sl 22], false, some 22, [], 24⟩,
   some ⟨[.fn], false, none, [], 8⟩,
   some ⟨[.int .i64, .bool], true, none, [(0, 3), (1, 4)], 16⟩,
   some ⟨[.int .i64, .bool], true, none, [(0, 3), (1, 4)], 16⟩,
   some ⟨[.sl 5, .sl 5, .int .i64, .int .i64], true, none, [(0, 22), (1, 22), (2, 3), (3, 3)], 64⟩,
   some ⟨[.sl 5, .sl 5, .int .i64, .int .i64], true, none, [(0, 22), (1, 22), (2, 3), (3, 3)], 64⟩,
   some ⟨[.int .i64, .int .i64, .int .i64, .int .i64], true, none, [(0, 3), (1, 3), (2, 36)], 32⟩,
   some ⟨[.int .i64, .int .i64, .int .i64, .int .i64], true, none, [(0, 3), (1, 3), (2, 36)], 32⟩,
   none,
   some ⟨[.fn], false, none, [], 8⟩,
   some ⟨[.sl 9], false, some 9, [], 24⟩,
   some ⟨[.fn], false, none, [], 8⟩,
   some ⟨[.fn], false, none, [], 8⟩,
   some ⟨[.fn], false, none, [], 8⟩],
  [some ⟨[.fn], false, none, [], 8⟩,
   some ⟨[.ptr], false, none, [], 8⟩,
   some ⟨[.fn], false, none, [], 8⟩,
   some ⟨[.fn], false, none, [], 8⟩,
   some ⟨[.fn], false, none, [], 8⟩,
   some ⟨[.fn], false, none, [], 8⟩,
   some ⟨[.fn], false, none, [], 8⟩,
   some ⟨[.fn], false, none, [], 8⟩,
   some ⟨[.fn], false, none, [], 8⟩,
   some ⟨[.sl 78], false, some 78, [], 24⟩,
   some ⟨[.fn], false, none, [], 8⟩,
   some ⟨[.fn], false, none, [], 8⟩,
   some ⟨[.fn], false, none, [], 8⟩,
   some ⟨[.int .i64, .int .i64, .int .i64, .int .i64, .sl 5, .sl 5, .int .i64, .sl 5], true, none, [(0, 3), (1, 3), (2, 3), (3, 30), (7, 22)], 112⟩,
   some ⟨[.int .i64, .int .i64, .int .i64, .int .i64, .sl 5, .sl 5, .int .i64, .sl 5], true, none, [(0, 3), (1, 3), (2, 3), (3, 30), (7, 22)], 112⟩,
   some ⟨[.sl 205], false, some 205, [], 24⟩],
  [some ⟨[.sl 89], false, some 89, [], 24⟩,
   some ⟨[.sl 91], false, some 91, [], 24⟩,
   some ⟨[.sl 136], false, some 136, [], 24⟩,
   some ⟨[.sl 28], false, some 28, [], 24⟩,
   some ⟨[.sl 4], false, some 4, [], 24⟩,
   some ⟨[.bool, .bool, .sl 205, .sl 89, .sl 91, .sl 91, .sl 136, .sl 28, .sl 4, .int .i64, .int .i64], true, none, [(0, 4), (1, 4), (2, 79), (3, 80), (4, 81), (5, 81), (6, 82), (7, 83), (8, 84), (9, 3), (10, 3)], 192⟩,
   some ⟨[.bool, .bool, .sl 205, .sl 89, .sl 91, .sl 91, .sl 136, .sl 28, .sl 4, .int .i64, .int .i64], true, none, [(0, 4), (1, 4), (2, 79), (3, 80), (4, 81), (5, 81), (6, 82), (7, 83), (8, 84), (9, 3), (10, 3)], 192⟩,
   some ⟨[.fn], false, none, [], 8⟩,
   some ⟨[.int .i64, .int .i64, .int .i64, .sl 5, .sl 5, .int .i64, .int .i64, .int .i64, .int .i64, .int .i64], true, none, [(0, 3), (1, 3), (2, 30), (6, 3), (7, 3), (8, 36)], 112⟩,
   some ⟨[.int .i64, .int .i64, .int .i64, .sl 5, .sl 5, .int .i64, .int .i64, .int .i64, .int .i64, .int .i64], true, none, [(0, 3), (1, 3), (2, 30), (6, 3), (7, 3), (8, 36)], 112⟩,
   some ⟨[.int .i64, .int .i64, .sl 5, .int .i64, .int .i64, .int .i64, .bool, .sl 5], true, none, [(0, 3), (1, 3), (2, 22), (3, 3), (4, 3), (5, 41)], 96⟩,
   some ⟨[.int .i64, .int .i64, .sl 5, .int .i64, .int .i64, .int .i64, .bool, .sl 5], true, none, [(0, 3), (1, 3), (2, 22), (3, 3), (4, 3), (5, 41)], 96⟩,
   some ⟨[.fn], false, none, [], 8⟩,
   some ⟨[.fn], false, none, [], 8⟩,
   some ⟨[.fn], false, none, [], 8⟩,
   some ⟨[.fn], false, none, [], 8⟩],
  [some ⟨[.fn], false, none, [], 8⟩,
   some ⟨[.sl 5, .int .i64], true, none, [(0, 22), (1, 3)], 32⟩,
   some ⟨[.sl 5, .int .i64], true, none, [(0, 22), (1, 3)], 32⟩,
   some ⟨[.fn], false, none, [], 8⟩,
   some ⟨[.fn], false, none, [], 8⟩,
   some ⟨[.fn], false, none, [], 8⟩,
   some ⟨[.fn], false, none, [], 8⟩,
   some ⟨[.fn], false, none, [], 8⟩,
   some ⟨[.sl 5, .int .i64, .int .i64], true, none, [(0, 22), (1, 3), (2, 3)], 40⟩,
   some ⟨[.sl 5, .int .i64, .int .i64], true, none, [(0, 22), (1, 3), (2, 3)], 40⟩,
   some ⟨[.fn], false, none, [], 8⟩,
   some ⟨[.sl 3], false, some 3, [], 24⟩,
   some ⟨[.fn], false, none, [], 8⟩,
   some ⟨[.fn], false, none, [], 8⟩,
   some ⟨[.fn], false, none, [], 8⟩,
   some ⟨[.fn], false, none, [], 8⟩],
  [none,
   some ⟨[.fn], false, none, [], 8⟩,
   some ⟨[.fn], false, none, [], 8⟩,
   some ⟨[.fn], false, none, [], 8⟩,
   some ⟨[.fn], false, none, [], 8⟩,
   some ⟨[.fn], false, none, [], 8⟩,
   some ⟨[.fn], false, none, [], 8⟩,
   some ⟨[.fn], false, none, [], 8⟩,
   some ⟨[.fn], false, none, [], 8⟩,
   some ⟨[.ptr], false, none, [], 8⟩,
   some ⟨[.fn], false, none, [], 8⟩,
   some ⟨[.fn], false, none, [], 8⟩,
   some ⟨[.fn], false, none, [], 8⟩,
   some ⟨[.fn], false, none, [], 8⟩,
   some ⟨[.ptr], false, none, [], 8⟩,
   some ⟨[.fn], false, none, [], 8⟩],
  [some ⟨[.sl 133], false, some 133, [], 24⟩,
   some ⟨[.sl 176], false, some 176, [], 24⟩,
   some ⟨[.sl 133, .sl 3, .sl 3, .sl 176, .int .i64, .bool, .bool, .sl 205, .sl 89, .sl 91, .sl 91, .sl 136, .sl 28, .sl 4, .int .i64, .int .i64], true, none, [(0, 128), (1, 107), (2, 107), (3, 129), (4, 3), (5, 86)], 296⟩,
   some ⟨[.sl 133, .sl 3, .sl 3, .sl 176, .int .i64, .bool, .bool, .sl 205, .sl 89, .sl 91, .sl 91, .sl 136, .sl 28, .sl 4, .int .i64, .int .i64], true, none, [(0, 128), (1, 107), (2, 107), (3, 129), (4, 3), (5, 86)], 296⟩,
   some ⟨[.fn], false, none, [], 8⟩,
   some ⟨[.ptr], false, none, [], 8⟩,
   some ⟨[.sl 185], false, some 185, [], 24⟩,
   some ⟨[.int .i64, .int .i64, .int .i64, .sl 185, .int .i64, .int .i64, .int .i64, .int .i64, .sl 4, .sl 3, .sl 3], true, none, [(0, 3), (1, 3), (2, 3), (3, 134), (4, 3), (5, 3), (6, 3), (7, 3), (8, 84), (9, 107), (10, 107)], 152⟩,
   some ⟨[.int .i64, .int .i64, .int .i64, .sl 185, .int .i64, .int .i64, .int .i64, .int .i64, .sl 4, .sl 3, .sl 3], true, none, [(0, 3), (1, 3), (2, 3), (3, 134), (4, 3), (5, 3), (6, 3), (7, 3), (8, 84), (9, 107), (10, 107)], 152⟩,
   some ⟨[.sl 160], false, some 160, [], 24⟩,
   some ⟨[.int .i64, .int .i64, .int .i64, .sl 185, .int .i64, .int .i64, .int .i64, .int .i64, .sl 4, .sl 3, .sl 3, .int .i64, .sl 55, .sl 98, .int .i64, .sl 53, .sl 57, .int .i64, .bool, .sl 160], true, none, [(0, 136), (11, 28), (17, 3), (18, 4), (19, 137)], 304⟩,
   some ⟨[.int .i64, .int .i64, .int .i64, .sl 185, .int .i64, .int .i64, .int .i64, .int .i64, .sl 4, .sl 3, .sl 3, .int .i64, .sl 55, .sl 98, .int .i64, .sl 53, .sl 57, .int .i64, .bool, .sl 160], true, none, [(0, 136), (11, 28), (17, 3), (18, 4), (19, 137)], 304⟩,
   some ⟨[.fn], false, none, [], 8⟩,
   some ⟨[.fn], false, none, [], 8⟩,
   some ⟨[.fn], false, none, [], 8⟩,
   some ⟨[.fn], false, none, [], 8⟩],
  [some ⟨[.fn], false, none, [], 8⟩,
   some ⟨[.int .u64], false, none, [], 8⟩,
   some ⟨[.fn], false, none, [], 8⟩,
   some ⟨[.fn], false, none, [], 8⟩,
   some ⟨[.fn], false, none, [], 8⟩,
   some ⟨[.fn], false, none, [], 8⟩,
   some ⟨[.fn], false, none, [], 8⟩,
   some ⟨[.fn], false, none, [], 8⟩,
   some ⟨[.fn], false, none, [], 8⟩,
   some ⟨[.fn], false, none, [], 8⟩,
   some ⟨[.fn], false, none, [], 8⟩,
   none,
   some ⟨[.fn], false, none, [], 8⟩,
   some ⟨[.fn], false, none, [], 8⟩,
   some ⟨[.fn], false, none, [], 8⟩,
   some ⟨[.sl 5, .int .i64], true, none, [(0, 22), (1, 3)], 32⟩],
  [some ⟨[.sl 5, .int .i64], true, none, [(0, 22), (1, 3)], 32⟩,
   some ⟨[.fn], false, none, [], 8⟩,
   some ⟨[.fn], false, none, [], 8⟩,
   some ⟨[.fn], false, none, [], 8⟩,
   some ⟨[.fn], false, none, [], 8⟩,
   some ⟨[.fn], false, none, [], 8⟩,
   some ⟨[.fn], false, none, [], 8⟩,
   some ⟨[.fn], false, none, [], 8⟩,
   some ⟨[.fn], false, none, [], 8⟩,
   some ⟨[.fn], false, none, [], 8⟩,
   some ⟨[.fn], false, none, [], 8⟩,
   some ⟨[.fn], false, none, [], 8⟩,
   some ⟨[.fn], false, none, [], 8⟩,
   some ⟨[.int .i64, .int .i64, .int .i64, .int .i64, .int .i64, .int .i64, .sl 185, .int .i64, .bool], true, none, [(0, 3), (1, 3), (2, 3), (3, 3), (4, 3), (5, 3), (6, 134), (7, 3), (8, 4)], 88⟩,
   some ⟨[.int .i64, .int .i64, .int .i64, .int .i64, .int .i64, .int .i64, .sl 185, .int .i64, .bool], true, none, [(0, 3), (1, 3), (2, 3), (3, 3), (4, 3), (5, 3), (6, 134), (7, 3), (8, 4)], 88⟩,
   some ⟨[.int .i64, .int .i64, .int .i64, .int .i64, .int .i64, .int .i64, .int .i64, .sl 185, .int .i64, .bool, .int .i64, .int .i64, .int .i64, .int .i64, .sl 5, .sl 5, .int .i64, .int .i64, .int .i64, .int .i64, .int .i64], true, none, [(0, 3), (1, 174), (10, 3), (11, 32), (17, 3), (18, 3), (19, 36)], 216⟩],
  [some ⟨[.int .i64, .int .i64, .int .i64, .int .i64, .int .i64, .int .i64, .int .i64, .sl 185, .int .i64, .bool, .int .i64, .int .i64, .int .i64, .int .i64, .sl 5, .sl 5, .int .i64, .int .i64, .int .i64, .int .i64, .int .i64], true, none, [(0, 3), (1, 174), (10, 3), (11, 32), (17, 3), (18, 3), (19, 36)], 216⟩,
   some ⟨[.fn], false, none, [], 8⟩,
   some ⟨[.fn], false, none, [], 8⟩,
   some ⟨[.ptr], false, none, [], 8⟩,
   some ⟨[.fn], false, none, [], 8⟩,
   some ⟨[.fn], false, none, [], 8⟩,
   some ⟨[.ptr], false, none, [], 8⟩,
   some ⟨[.fn], false, none, [], 8⟩,
   some ⟨[.int .i64, .int .i64, .int .i64, .int .i64, .sl 5, .sl 5, .int .i64], true, none, [(0, 3), (1, 32)], 88⟩,
   some ⟨[.int .i64, .int .i64, .int .i64, .int .i64, .sl 5, .sl 5, .int .i64], true, none, [(0, 3), (1, 32)], 88⟩,
   some ⟨[.fn], false, none, [], 8⟩,
   some ⟨[.fn], false, none, [], 8⟩,
   some ⟨[.fn], false, none, [], 8⟩,
   some ⟨[.fn], false, none, [], 8⟩,
   some ⟨[.fn], false, none, [], 8⟩,
   some ⟨[.fn], false, none, [], 8⟩],
  [some ⟨[.fn], false, none, [], 8⟩,
   some ⟨[.fn], false, none, [], 8⟩,
   some ⟨[.sl 174], false, some 174, [], 24⟩,
   some ⟨[.int .i64, .int .i64, .int .i64, .sl 185, .int .i64, .int .i64, .int .i64, .int .i64, .sl 4, .sl 3, .sl 3, .sl 174], true, none, [(0, 136), (11, 194)], 176⟩,
   some ⟨[.int .i64, .int .i64, .int .i64, .sl 185, .int .i64, .int .i64, .int .i64, .int .i64, .sl 4, .sl 3, .sl 3, .sl 174], true, none, [(0, 136), (11, 194)], 176⟩,
   some ⟨[.fn], false, none, [], 8⟩,
   some ⟨[.fn], false, none, [], 8⟩,
   some ⟨[.fn], false, none, [], 8⟩,
   some ⟨[.fn], false, none, [], 8⟩,
   some ⟨[.fn], false, none, [], 8⟩,
   some ⟨[.fn], false, none, [], 8⟩,
   some ⟨[.fn], false, none, [], 8⟩,
   some ⟨[.int .i64, .int .i64, .int .i64, .int .i64, .sl 5, .sl 5, .int .i64], true, none, [(0, 3), (1, 32)], 88⟩,
   some ⟨[.int .i64, .int .i64, .int .i64, .int .i64, .sl 5, .sl 5, .int .i64], true, none, [(0, 3), (1, 32)], 88⟩,
   some ⟨[.fn], false, none, [], 8⟩,
   some ⟨[.fn], false, none, [], 8⟩],
  [some ⟨[.fn], false, none, [], 8⟩,
   some ⟨[.fn], false, none, [], 8⟩,
   some ⟨[.ptr, .ptr, .ptr, .str], true, none, [(0, 17), (1, 17), (2, 17), (3, 9)], 40⟩,
   some ⟨[.ptr, .ptr, .ptr, .str], true, none, [(0, 17), (1, 17), (2, 17), (3, 9)], 40⟩,
   none,
   none,
   none,
   some ⟨[.int .u32], false, none, [], 4⟩,
   some ⟨[.int .u8], false, none, [], 1⟩,
   some ⟨[.int .u8], false, none, [], 1⟩,
   some ⟨[.fn], false, none, [], 8⟩,
   some ⟨[.ptr], false, none, [], 8⟩,
   some ⟨[.int .i32], false, none, [], 4⟩,
   some ⟨[.int .i32], false, none, [], 4⟩,
   some ⟨[.int .u64, .int .u64, .int .u32, .int .u8, .int .u8, .int .u8, .int .u8, .fn, .ptr, .int .i32, .int .i32], true, none, [(0, 12), (1, 12), (2, 215), (3, 216), (4, 5), (5, 5), (6, 217), (7, 218), (8, 219), (9, 220), (10, 221)], 48⟩,
   some ⟨[.int .u64, .int .u64, .int .u32, .int .u8, .int .u8, .int .u8, .int .u8, .fn, .ptr, .int .i32, .int .i32], true, none, [(0, 12), (1, 12), (2, 215), (3, 216), (4, 5), (5, 5), (6, 217), (7, 218), (8, 219), (9, 220), (10, 221)], 48⟩],
  [none,
   none,
   none,
   none,
   none,
   none,
   none,
   none,
   none,
   none,
   none,
   none,
   none,
   none,
   none,
   none]]
def tab : Tab := tabOf chunks
abbrev t_int' : TypeId := 3
abbrev Zc : TypeId := 5
abbrev ZfX : TypeId := 22
abbrev Zj : TypeId := 28
abbrev Zla : TypeId := 32
abbrev Zfi : TypeId := 36
abbrev Zd : TypeId := 53
abbrev Zg : TypeId := 55
abbrev Ze : TypeId := 57
abbrev Zf : TypeId := 98
abbrev Zy : TypeId := 105
def Za (x : V) : V := .agg [.int .i64 (gi x 0), .inl Zg (gl x 1), .inl Zf (gl x 2), .int .i64 (gi x 3), .inl Zd (gl x 4), .inl Ze (gl x 5)]
def ZpW (x : V) : V := .agg [.int .i64 (gi x 0), .inl Zc (gl x 1), .inl Zc (gl x 2), .int .i64 (gi x 3)]
def Zn (x : V) : V := .agg [.int .i64 (gi x 0), .int .i64 (gi x 1), .int .i64 (gi x 2), .inl Zc (gl x 3), .inl Zc (gl x 4), .int .i64 (gi x 5)]
def ZA (x : V) : V := .agg [.int .i64 (gi x 0), .int .i64 (gi x 1)]
def Zb0 (x : V) : V := .agg [.int .i64 (gi x 0), .bool (gb x 1), .inl Zc (gl x 2)]
def ZD (x : V) : V := .agg [.int .i64 (gi x 0), .bool (gb x 1)]
def ZhX (x : V) : V := .agg [.inl Zc (gl x 0), .inl Zc (gl x 1), .int .i64 (gi x 2), .int .i64 (gi x 3)]
def ZfP (x : V) : V := .agg [.int .i64 (gi x 0), .int .i64 (gi x 1), .int .i64 (gi x 2), .int .i64 (gi x 3)]
def Zn5 (x : V) : V := .agg [.inl Zc (gl x 0), .int .i64 (gi x 1)]
def Zb (x : V) : V := .agg [.inl Zc (gl x 0), .int .i64 (gi x 1), .int .i64 (gi x 2)]
abbrev vi (n : Int) : V := .int .i64 n
abbrev vs (k : Nat) (T : TypeId) : V := .sl k T 0 none
abbrev Zcb : Bool := true
def noL : Loops := ⟨fun _ => [], fun _ => [], fun _ => [], Zbw [], [], fun _ => []⟩
theorem Zao {cfg : Cfg} {fn : Func} : ZI cfg noL (ZY fn) := GoodAll.ok (l := []) GoodAll.nil rfl
end Go.Eng.R
open Go Go.Eng
namespace Go.Eng.R
def Zb7 : Nat → List V → Int → Int → Option (List V × Int)
  | 0, _, _, _ => none
  | k_ + 1, code0, h3, i4 =>
    bif (decide (i4 < ((code0.length : Nat) : Int))) then
      bif (decide (i4 < 4000)) then
        bif (Zm i4 code0.length) then
          Zb7 k_ code0 (bAnd .i64 (IntKind.i64.wrap ((IntKind.i64.wrap ((IntKind.i64.wrap (h3 * 131)) + (IntKind.i64.wrap (gi (rd code0 i4.toNat) 0)))) + 7)) 1073741823) (IntKind.i64.wrap (i4 + 1))
        else none
      else some (code0, h3)
    else some (code0, h3)
def Zek (code : List V) : Option (V) :=
  Option.bind (Zb7 ((((code.length : Nat) : Int) - 0).toNat + 1) code (IntKind.i64.wrap (36565 + ((code.length : Nat) : Int))) 0) fun r1 =>
  some (V.agg [(V.inl Zc r1.1), (V.int .i64 0), (V.int .i64 r1.2)])
def ZbE (c : V) : Option (Int × V) :=
  bif (decide ((gi c 1) < (((gl c 0).length : Nat) : Int))) then
    bif (Zm (gi c 1) ((gl c 0).length)) then
      some ((bAnd .i64 (IntKind.i64.wrap ((bAnd .i64 (bXor .i64 (ZeQ .i64 (IntKind.i64.wrap ((IntKind.i64.wrap ((gi c 2) * 6364136223846793005)) + 1442695040888963407)) 33) (ZeQ .i64 (IntKind.i64.wrap ((IntKind.i64.wrap ((gi c 2) * 6364136223846793005)) + 1442695040888963407)) 45)) 255) + (IntKind.i64.wrap (gi (rd (gl c 0) ((gi c 1).toNat)) 0)))) 255), (V.agg [(V.inl Zc (gl c 0)), (V.int .i64 (IntKind.i64.wrap ((gi c 1) + 1))), (V.int .i64 (IntKind.i64.wrap ((IntKind.i64.wrap ((gi c 2) * 6364136223846793005)) + 1442695040888963407)))]))
    else none
  else some ((bAnd .i64 (bXor .i64 (ZeQ .i64 (IntKind.i64.wrap ((IntKind.i64.wrap ((gi c 2) * 6364136223846793005)) + 1442695040888963407)) 33) (ZeQ .i64 (IntKind.i64.wrap ((IntKind.i64.wrap ((gi c 2) * 6364136223846793005)) + 1442695040888963407)) 45)) 255), (V.agg [(V.inl Zc (gl c 0)), (V.int .i64 (gi c 1)), (V.int .i64 (IntKind.i64.wrap ((IntKind.i64.wrap ((gi c 2) * 6364136223846793005)) + 1442695040888963407)))]))
def Zh (c : V) (n : Int) : Option (Int × V) :=
  bif (decide (n ≤ 0)) then
    some (0, (Zb c))
  else bif (decide (n ≤ 256)) then
    Option.bind (ZbE (Zb c)) fun r3 =>
    bif (!(decide (n = 0))) then
      some ((r3.1.tmod n), (Zb r3.2))
    else none
  else Option.bind (ZbE (Zb c)) fun r4 =>
  Option.bind (ZbE (Zb r4.2)) fun r5 =>
  Option.bind (ZbE (Zb r5.2)) fun r6 =>
  Option.bind (ZbE (Zb r6.2)) fun r7 =>
  bif (!(decide (n = 0))) then
    some (((IntKind.i64.wrap ((IntKind.i64.wrap ((IntKind.i64.wrap ((IntKind.i64.wrap (r4.1 * 16777216)) + (IntKind.i64.wrap (r5.1 * 65536)))) + (IntKind.i64.wrap (r6.1 * 256)))) + r7.1)).tmod n), (Zb r7.2))
  else none
def ZN (c : V) (list : List V) : Option (Int × V) :=
  Option.bind (Zh (Zb c) ((list.length : Nat) : Int)) fun r11 =>
  bif (Zm r11.1 list.length) then
    some ((gi (rd list r11.1.toNat) 0), (Zb r11.2))
  else none
def Zco (c : V) : Option (List V × V) :=
  Option.bind (Zh (Zb c) 5) fun r13 =>
  bif (Zm r13.1 5) then
    some ((gs (rd [(V.str []), (V.str [(V.int .u8 120)]), (V.str [(V.int .u8 121)]), (V.str [(V.int .u8 0), (V.int .u8 255)]), (V.str [(V.int .u8 108), (V.int .u8 111), (V.int .u8 110), (V.int .u8 103), (V.int .u8 32), (V.int .u8 118), (V.int .u8 97), (V.int .u8 108), (V.int .u8 117), (V.int .u8 101)])] (0 + r13.1.toNat)) 0), (Zb r13.2))
  else none
def ZaS (c : V) : Option (List V × V) :=
  Option.bind (Zh (Zb c) 5) fun r15 =>
  bif (Zm r15.1 5) then
    bif (Zw ((gs (rd [(V.str [(V.int .u8 97)]), (V.str [(V.int .u8 98)]), (V.str [(V.int .u8 99)]), (V.str [(V.int .u8 97), (V.int .u8 47), (V.int .u8 98)]), (V.str [(V.int .u8 100)])] (0 + r15.1.toNat)) 0).length) 1) then
      some ((gs (rd [(V.str [(V.int .u8 97)]), (V.str [(V.int .u8 98)]), (V.str [(V.int .u8 99)]), (V.str [(V.int .u8 97), (V.int .u8 47), (V.int .u8 98)]), (V.str [(V.int .u8 100)])] (0 + r15.1.toNat)) 0), (Zb r15.2))
    else none
  else none
def ZfY (c : V) (index : Int) : Option (V × V) :=
  Option.bind (ZN (Zb c) [(V.int .i64 1), (V.int .i64 1), (V.int .i64 1), (V.int .i64 2), (V.int .i64 3), (V.int .i64 3), (V.int .i64 4), (V.int .i64 5), (V.int .i64 6), (V.int .i64 6), (V.int .i64 7), (V.int .i64 0)]) fun r12 =>
  bif (decide (r12.1 = 1)) then
    Option.bind (Zco (Zb r12.2)) fun r14 =>
    bif (!(decide (r12.1 = 0))) then
      bif (!(decide (r12.1 = 4))) then
        bif (!(decide (r12.1 = 5))) then
          Option.bind (ZaS (Zb r14.2)) fun r16 =>
          bif (decide (r12.1 = 4)) then
            Option.bind (Zh (Zb r16.2) 2) fun r17 =>
            some ((V.agg [(V.int .i64 r12.1), (V.inl Zc r16.1), (V.inl Zc r14.1), (V.int .i64 r17.1)]), (Zb r17.2))
          else bif (decide (r12.1 = 2)) then
            Option.bind (Zh (Zb r16.2) (IntKind.i64.wrap (index + 1))) fun r18 =>
            Option.bind (Zh (Zb r18.2) 2) fun r19 =>
            some ((V.agg [(V.int .i64 r12.1), (V.inl Zc r16.1), (V.inl Zc r14.1), (V.int .i64 (IntKind.i64.wrap (r18.1 * r19.1)))]), (Zb r19.2))
          else bif (decide (r12.1 = 5)) then
            Option.bind (Zh (Zb r16.2) 4) fun r20 =>
            bif (decide ((0 : Int) < index)) then
              Option.bind (Zh (Zb r20.2) index) fun r21 =>
              some ((V.agg [(V.int .i64 r12.1), (V.inl Zc r16.1), (V.inl Zc r14.1), (V.int .i64 (IntKind.i64.wrap (1 + r21.1)))]), (Zb r21.2))
            else some ((V.agg [(V.int .i64 r12.1), (V.inl Zc r16.1), (V.inl Zc r14.1), (V.int .i64 (IntKind.i64.wrap (1 + r20.1)))]), (Zb r20.2))
          else bif (decide (r12.1 = 6)) then
            Option.bind (Zh (Zb r16.2) 4) fun r22 =>
            bif (decide ((0 : Int) < index)) then
              Option.bind (Zh (Zb r22.2) index) fun r23 =>
              some ((V.agg [(V.int .i64 r12.1), (V.inl Zc r16.1), (V.inl Zc r14.1), (V.int .i64 (IntKind.i64.wrap (1 + r23.1)))]), (Zb r23.2))
            else some ((V.agg [(V.int .i64 r12.1), (V.inl Zc r16.1), (V.inl Zc r14.1), (V.int .i64 (IntKind.i64.wrap (1 + r22.1)))]), (Zb r22.2))
          else bif (decide (r12.1 = 7)) then
            Option.bind (Zh (Zb r16.2) 4) fun r24 =>
            bif (decide ((0 : Int) < index)) then
              Option.bind (Zh (Zb r24.2) index) fun r25 =>
              some ((V.agg [(V.int .i64 r12.1), (V.inl Zc r16.1), (V.inl Zc r14.1), (V.int .i64 (IntKind.i64.wrap (1 + r25.1)))]), (Zb r25.2))
            else some ((V.agg [(V.int .i64 r12.1), (V.inl Zc r16.1), (V.inl Zc r14.1), (V.int .i64 (IntKind.i64.wrap (1 + r24.1)))]), (Zb r24.2))
          else some ((V.agg [(V.int .i64 r12.1), (V.inl Zc r16.1), (V.inl Zc r14.1), (V.int .i64 0)]), (Zb r16.2))
        else bif (decide (r12.1 = 4)) then
          Option.bind (Zh (Zb r14.2) 2) fun r26 =>
          some ((V.agg [(V.int .i64 r12.1), (V.inl Zc []), (V.inl Zc r14.1), (V.int .i64 r26.1)]), (Zb r26.2))
        else bif (decide (r12.1 = 2)) then
          Option.bind (Zh (Zb r14.2) (IntKind.i64.wrap (index + 1))) fun r27 =>
          Option.bind (Zh (Zb r27.2) 2) fun r28 =>
          some ((V.agg [(V.int .i64 r12.1), (V.inl Zc []), (V.inl Zc r14.1), (V.int .i64 (IntKind.i64.wrap (r27.1 * r28.1)))]), (Zb r28.2))
        else bif (decide (r12.1 = 5)) then
          Option.bind (Zh (Zb r14.2) 4) fun r29 =>
          bif (decide ((0 : Int) < index)) then
            Option.bind (Zh (Zb r29.2) index) fun r30 =>
            some ((V.agg [(V.int .i64 r12.1), (V.inl Zc []), (V.inl Zc r14.1), (V.int .i64 (IntKind.i64.wrap (1 + r30.1)))]), (Zb r30.2))
          else some ((V.agg [(V.int .i64 r12.1), (V.inl Zc []), (V.inl Zc r14.1), (V.int .i64 (IntKind.i64.wrap (1 + r29.1)))]), (Zb r29.2))
        else bif (decide (r12.1 = 6)) then
          Option.bind (Zh (Zb r14.2) 4) fun r31 =>
          bif (decide ((0 : Int) < index)) then
            Option.bind (Zh (Zb r31.2) index) fun r32 =>
            some ((V.agg [(V.int .i64 r12.1), (V.inl Zc []), (V.inl Zc r14.1), (V.int .i64 (IntKind.i64.wrap (1 + r32.1)))]), (Zb r32.2))
          else some ((V.agg [(V.int .i64 r12.1), (V.inl Zc []), (V.inl Zc r14.1), (V.int .i64 (IntKind.i64.wrap (1 + r31.1)))]), (Zb r31.2))
        else bif (decide (r12.1 = 7)) then
          Option.bind (Zh (Zb r14.2) 4) fun r33 =>
          bif (decide ((0 : Int) < index)) then
            Option.bind (Zh (Zb r33.2) index) fun r34 =>
            some ((V.agg [(V.int .i64 r12.1), (V.inl Zc []), (V.inl Zc r14.1), (V.int .i64 (IntKind.i64.wrap (1 + r34.1)))]), (Zb r34.2))
          else some ((V.agg [(V.int .i64 r12.1), (V.inl Zc []), (V.inl Zc r14.1), (V.int .i64 (IntKind.i64.wrap (1 + r33.1)))]), (Zb r33.2))
        else some ((V.agg [(V.int .i64 r12.1), (V.inl Zc []), (V.inl Zc r14.1), (V.int .i64 0)]), (Zb r14.2))
      else bif (decide (r12.1 = 4)) then
        Option.bind (Zh (Zb r14.2) 2) fun r35 =>
        some ((V.agg [(V.int .i64 r12.1), (V.inl Zc []), (V.inl Zc r14.1), (V.int .i64 r35.1)]), (Zb r35.2))
      else bif (decide (r12.1 = 2)) then
        Option.bind (Zh (Zb r14.2) (IntKind.i64.wrap (index + 1))) fun r36 =>
        Option.bind (Zh (Zb r36.2) 2) fun r37 =>
        some ((V.agg [(V.int .i64 r12.1), (V.inl Zc []), (V.inl Zc r14.1), (V.int .i64 (IntKind.i64.wrap (r36.1 * r37.1)))]), (Zb r37.2))
      else bif (decide (r12.1 = 5)) then
        Option.bind (Zh (Zb r14.2) 4) fun r38 =>
        bif (decide ((0 : Int) < index)) then
          Option.bind (Zh (Zb r38.2) index) fun r39 =>
          some ((V.agg [(V.int .i64 r12.1), (V.inl Zc []), (V.inl Zc r14.1), (V.int .i64 (IntKind.i64.wrap (1 + r39.1)))]), (Zb r39.2))
        else some ((V.agg [(V.int .i64 r12.1), (V.inl Zc []), (V.inl Zc r14.1), (V.int .i64 (IntKind.i64.wrap (1 + r38.1)))]), (Zb r38.2))
      else bif (decide (r12.1 = 6)) then
        Option.bind (Zh (Zb r14.2) 4) fun r40 =>
        bif (decide ((0 : Int) < index)) then
          Option.bind (Zh (Zb r40.2) index) fun r41 =>
          some ((V.agg [(V.int .i64 r12.1), (V.inl Zc []), (V.inl Zc r14.1), (V.int .i64 (IntKind.i64.wrap (1 + r41.1)))]), (Zb r41.2))
        else some ((V.agg [(V.int .i64 r12.1), (V.inl Zc []), (V.inl Zc r14.1), (V.int .i64 (IntKind.i64.wrap (1 + r40.1)))]), (Zb r40.2))
      else bif (decide (r12.1 = 7)) then
        Option.bind (Zh (Zb r14.2) 4) fun r42 =>
        bif (decide ((0 : Int) < index)) then
          Option.bind (Zh (Zb r42.2) index) fun r43 =>
          some ((V.agg [(V.int .i64 r12.1), (V.inl Zc []), (V.inl Zc r14.1), (V.int .i64 (IntKind.i64.wrap (1 + r43.1)))]), (Zb r43.2))
        else some ((V.agg [(V.int .i64 r12.1), (V.inl Zc []), (V.inl Zc r14.1), (V.int .i64 (IntKind.i64.wrap (1 + r42.1)))]), (Zb r42.2))
      else some ((V.agg [(V.int .i64 r12.1), (V.inl Zc []), (V.inl Zc r14.1), (V.int .i64 0)]), (Zb r14.2))
    else bif (decide (r12.1 = 4)) then
      Option.bind (Zh (Zb r14.2) 2) fun r44 =>
      some ((V.agg [(V.int .i64 r12.1), (V.inl Zc []), (V.inl Zc r14.1), (V.int .i64 r44.1)]), (Zb r44.2))
    else bif (decide (r12.1 = 2)) then
      Option.bind (Zh (Zb r14.2) (IntKind.i64.wrap (index + 1))) fun r45 =>
      Option.bind (Zh (Zb r45.2) 2) fun r46 =>
      some ((V.agg [(V.int .i64 r12.1), (V.inl Zc []), (V.inl Zc r14.1), (V.int .i64 (IntKind.i64.wrap (r45.1 * r46.1)))]), (Zb r46.2))
    else bif (decide (r12.1 = 5)) then
      Option.bind (Zh (Zb r14.2) 4) fun r47 =>
      bif (decide ((0 : Int) < index)) then
        Option.bind (Zh (Zb r47.2) index) fun r48 =>
        some ((V.agg [(V.int .i64 r12.1), (V.inl Zc []), (V.inl Zc r14.1), (V.int .i64 (IntKind.i64.wrap (1 + r48.1)))]), (Zb r48.2))
      else some ((V.agg [(V.int .i64 r12.1), (V.inl Zc []), (V.inl Zc r14.1), (V.int .i64 (IntKind.i64.wrap (1 + r47.1)))]), (Zb r47.2))
    else bif (decide (r12.1 = 6)) then
      Option.bind (Zh (Zb r14.2) 4) fun r49 =>
      bif (decide ((0 : Int) < index)) then
        Option.bind (Zh (Zb r49.2) index) fun r50 =>
        some ((V.agg [(V.int .i64 r12.1), (V.inl Zc []), (V.inl Zc r14.1), (V.int .i64 (IntKind.i64.wrap (1 + r50.1)))]), (Zb r50.2))
      else some ((V.agg [(V.int .i64 r12.1), (V.inl Zc []), (V.inl Zc r14.1), (V.int .i64 (IntKind.i64.wrap (1 + r49.1)))]), (Zb r49.2))
    else bif (decide (r12.1 = 7)) then
      Option.bind (Zh (Zb r14.2) 4) fun r51 =>
      bif (decide ((0 : Int) < index)) then
        Option.bind (Zh (Zb r51.2) index) fun r52 =>
        some ((V.agg [(V.int .i64 r12.1), (V.inl Zc []), (V.inl Zc r14.1), (V.int .i64 (IntKind.i64.wrap (1 + r52.1)))]), (Zb r52.2))
      else some ((V.agg [(V.int .i64 r12.1), (V.inl Zc []), (V.inl Zc r14.1), (V.int .i64 (IntKind.i64.wrap (1 + r51.1)))]), (Zb r51.2))
    else some ((V.agg [(V.int .i64 r12.1), (V.inl Zc []), (V.inl Zc r14.1), (V.int .i64 0)]), (Zb r14.2))
  else bif (decide (r12.1 = 2)) then
    Option.bind (Zco (Zb r12.2)) fun r53 =>
    bif (!(decide (r12.1 = 0))) then
      bif (!(decide (r12.1 = 4))) then
        bif (!(decide (r12.1 = 5))) then
          Option.bind (ZaS (Zb r53.2)) fun r54 =>
          bif (decide (r12.1 = 4)) then
            Option.bind (Zh (Zb r54.2) 2) fun r55 =>
            some ((V.agg [(V.int .i64 r12.1), (V.inl Zc r54.1), (V.inl Zc r53.1), (V.int .i64 r55.1)]), (Zb r55.2))
          else bif (decide (r12.1 = 2)) then
            Option.bind (Zh (Zb r54.2) (IntKind.i64.wrap (index + 1))) fun r56 =>
            Option.bind (Zh (Zb r56.2) 2) fun r57 =>
            some ((V.agg [(V.int .i64 r12.1), (V.inl Zc r54.1), (V.inl Zc r53.1), (V.int .i64 (IntKind.i64.wrap (r56.1 * r57.1)))]), (Zb r57.2))
          else bif (decide (r12.1 = 5)) then
            Option.bind (Zh (Zb r54.2) 4) fun r58 =>
            bif (decide ((0 : Int) < index)) then
              Option.bind (Zh (Zb r58.2) index) fun r59 =>
              some ((V.agg [(V.int .i64 r12.1), (V.inl Zc r54.1), (V.inl Zc r53.1), (V.int .i64 (IntKind.i64.wrap (1 + r59.1)))]), (Zb r59.2))
            else some ((V.agg [(V.int .i64 r12.1), (V.inl Zc r54.1), (V.inl Zc r53.1), (V.int .i64 (IntKind.i64.wrap (1 + r58.1)))]), (Zb r58.2))
          else bif (decide (r12.1 = 6)) then
            Option.bind (Zh (Zb r54.2) 4) fun r60 =>
            bif (decide ((0 : Int) < index)) then
              Option.bind (Zh (Zb r60.2) index) fun r61 =>
              some ((V.agg [(V.int .i64 r12.1), (V.inl Zc r54.1), (V.inl Zc r53.1), (V.int .i64 (IntKind.i64.wrap (1 + r61.1)))]), (Zb r61.2))
            else some ((V.agg [(V.int .i64 r12.1), (V.inl Zc r54.1), (V.inl Zc r53.1), (V.int .i64 (IntKind.i64.wrap (1 + r60.1)))]), (Zb r60.2))
          else bif (decide (r12.1 = 7)) then
            Option.bind (Zh (Zb r54.2) 4) fun r62 =>
            bif (decide ((0 : Int) < index)) then
              Option.bind (Zh (Zb r62.2) index) fun r63 =>
              some ((V.agg [(V.int .i64 r12.1), (V.inl Zc r54.1), (V.inl Zc r53.1), (V.int .i64 (IntKind.i64.wrap (1 + r63.1)))]), (Zb r63.2))
            else some ((V.agg [(V.int .i64 r12.1), (V.inl Zc r54.1), (V.inl Zc r53.1), (V.int .i64 (IntKind.i64.wrap (1 + r62.1)))]), (Zb r62.2))
          else some ((V.agg [(V.int .i64 r12.1), (V.inl Zc r54.1), (V.inl Zc r53.1), (V.int .i64 0)]), (Zb r54.2))
        else bif (decide (r12.1 = 4)) then
          Option.bind (Zh (Zb r53.2) 2) fun r64 =>
          some ((V.agg [(V.int .i64 r12.1), (V.inl Zc []), (V.inl Zc r53.1), (V.int .i64 r64.1)]), (Zb r64.2))
        else bif (decide (r12.1 = 2)) then
          Option.bind (Zh (Zb r53.2) (IntKind.i64.wrap (index + 1))) fun r65 =>
          Option.bind (Zh (Zb r65.2) 2) fun r66 =>
          some ((V.agg [(V.int .i64 r12.1), (V.inl Zc []), (V.inl Zc r53.1), (V.int .i64 (IntKind.i64.wrap (r65.1 * r66.1)))]), (Zb r66.2))
        else bif (decide (r12.1 = 5)) then
          Option.bind (Zh (Zb r53.2) 4) fun r67 =>
          bif (decide ((0 : Int) < index)) then
            Option.bind (Zh (Zb r67.2) index) fun r68 =>
            some ((V.agg [(V.int .i64 r12.1), (V.inl Zc []), (V.inl Zc r53.1), (V.int .i64 (IntKind.i64.wrap (1 + r68.1)))]), (Zb r68.2))
          else some ((V.agg [(V.int .i64 r12.1), (V.inl Zc []), (V.inl Zc r53.1), (V.int .i64 (IntKind.i64.wrap (1 + r67.1)))]), (Zb r67.2))
        else bif (decide (r12.1 = 6)) then
          Option.bind (Zh (Zb r53.2) 4) fun r69 =>
          bif (decide ((0 : Int) < index)) then
            Option.bind (Zh (Zb r69.2) index) fun r70 =>
            some ((V.agg [(V.int .i64 r12.1), (V.inl Zc []), (V.inl Zc r53.1), (V.int .i64 (IntKind.i64.wrap (1 + r70.1)))]), (Zb r70.2))
          else some ((V.agg [(V.int .i64 r12.1), (V.inl Zc []), (V.inl Zc r53.1), (V.int .i64 (IntKind.i64.wrap (1 + r69.1)))]), (Zb r69.2))
        else bif (decide (r12.1 = 7)) then
          Option.bind (Zh (Zb r53.2) 4) fun r71 =>
          bif (decide ((0 : Int) < index)) then
            Option.bind (Zh (Zb r71.2) index) fun r72 =>
            some ((V.agg [(V.int .i64 r12.1), (V.inl Zc []), (V.inl Zc r53.1), (V.int .i64 (IntKind.i64.wrap (1 + r72.1)))]), (Zb r72.2))
          else some ((V.agg [(V.int .i64 r12.1), (V.inl Zc []), (V.inl Zc r53.1), (V.int .i64 (IntKind.i64.wrap (1 + r71.1)))]), (Zb r71.2))
        else some ((V.agg [(V.int .i64 r12.1), (V.inl Zc []), (V.inl Zc r53.1), (V.int .i64 0)]), (Zb r53.2))
      else bif (decide (r12.1 = 4)) then
        Option.bind (Zh (Zb r53.2) 2) fun r73 =>
        some ((V.agg [(V.int .i64 r12.1), (V.inl Zc []), (V.inl Zc r53.1), (V.int .i64 r73.1)]), (Zb r73.2))
      else bif (decide (r12.1 = 2)) then
        Option.bind (Zh (Zb r53.2) (IntKind.i64.wrap (index + 1))) fun r74 =>
        Option.bind (Zh (Zb r74.2) 2) fun r75 =>
        some ((V.agg [(V.int .i64 r12.1), (V.inl Zc []), (V.inl Zc r53.1), (V.int .i64 (IntKind.i64.wrap (r74.1 * r75.1)))]), (Zb r75.2))
      else bif (decide (r12.1 = 5)) then
        Option.bind (Zh (Zb r53.2) 4) fun r76 =>
        bif (decide ((0 : Int) < index)) then
          Option.bind (Zh (Zb r76.2) index) fun r77 =>
          some ((V.agg [(V.int .i64 r12.1), (V.inl Zc []), (V.inl Zc r53.1), (V.int .i64 (IntKind.i64.wrap (1 + r77.1)))]), (Zb r77.2))
        else some ((V.agg [(V.int .i64 r12.1), (V.inl Zc []), (V.inl Zc r53.1), (V.int .i64 (IntKind.i64.wrap (1 + r76.1)))]), (Zb r76.2))
      else bif (decide (r12.1 = 6)) then
        Option.bind (Zh (Zb r53.2) 4) fun r78 =>
        bif (decide ((0 : Int) < index)) then
          Option.bind (Zh (Zb r78.2) index) fun r79 =>
          some ((V.agg [(V.int .i64 r12.1), (V.inl Zc []), (V.inl Zc r53.1), (V.int .i64 (IntKind.i64.wrap (1 + r79.1)))]), (Zb r79.2))
        else some ((V.agg [(V.int .i64 r12.1), (V.inl Zc []), (V.inl Zc r53.1), (V.int .i64 (IntKind.i64.wrap (1 + r78.1)))]), (Zb r78.2))
      else bif (decide (r12.1 = 7)) then
        Option.bind (Zh (Zb r53.2) 4) fun r80 =>
        bif (decide ((0 : Int) < index)) then
          Option.bind (Zh (Zb r80.2) index) fun r81 =>
          some ((V.agg [(V.int .i64 r12.1), (V.inl Zc []), (V.inl Zc r53.1), (V.int .i64 (IntKind.i64.wrap (1 + r81.1)))]), (Zb r81.2))
        else some ((V.agg [(V.int .i64 r12.1), (V.inl Zc []), (V.inl Zc r53.1), (V.int .i64 (IntKind.i64.wrap (1 + r80.1)))]), (Zb r80.2))
      else some ((V.agg [(V.int .i64 r12.1), (V.inl Zc []), (V.inl Zc r53.1), (V.int .i64 0)]), (Zb r53.2))
    else bif (decide (r12.1 = 4)) then
      Option.bind (Zh (Zb r53.2) 2) fun r82 =>
      some ((V.agg [(V.int .i64 r12.1), (V.inl Zc []), (V.inl Zc r53.1), (V.int .i64 r82.1)]), (Zb r82.2))
    else bif (decide (r12.1 = 2)) then
      Option.bind (Zh (Zb r53.2) (IntKind.i64.wrap (index + 1))) fun r83 =>
      Option.bind (Zh (Zb r83.2) 2) fun r84 =>
      some ((V.agg [(V.int .i64 r12.1), (V.inl Zc []), (V.inl Zc r53.1), (V.int .i64 (IntKind.i64.wrap (r83.1 * r84.1)))]), (Zb r84.2))
    else bif (decide (r12.1 = 5)) then
      Option.bind (Zh (Zb r53.2) 4) fun r85 =>
      bif (decide ((0 : Int) < index)) then
        Option.bind (Zh (Zb r85.2) index) fun r86 =>
        some ((V.agg [(V.int .i64 r12.1), (V.inl Zc []), (V.inl Zc r53.1), (V.int .i64 (IntKind.i64.wrap (1 + r86.1)))]), (Zb r86.2))
      else some ((V.agg [(V.int .i64 r12.1), (V.inl Zc []), (V.inl Zc r53.1), (V.int .i64 (IntKind.i64.wrap (1 + r85.1)))]), (Zb r85.2))
    else bif (decide (r12.1 = 6)) then
      Option.bind (Zh (Zb r53.2) 4) fun r87 =>
      bif (decide ((0 : Int) < index)) then
        Option.bind (Zh (Zb r87.2) index) fun r88 =>
        some ((V.agg [(V.int .i64 r12.1), (V.inl Zc []), (V.inl Zc r53.1), (V.int .i64 (IntKind.i64.wrap (1 + r88.1)))]), (Zb r88.2))
      else some ((V.agg [(V.int .i64 r12.1), (V.inl Zc []), (V.inl Zc r53.1), (V.int .i64 (IntKind.i64.wrap (1 + r87.1)))]), (Zb r87.2))
    else bif (decide (r12.1 = 7)) then
      Option.bind (Zh (Zb r53.2) 4) fun r89 =>
      bif (decide ((0 : Int) < index)) then
        Option.bind (Zh (Zb r89.2) index) fun r90 =>
        some ((V.agg [(V.int .i64 r12.1), (V.inl Zc []), (V.inl Zc r53.1), (V.int .i64 (IntKind.i64.wrap (1 + r90.1)))]), (Zb r90.2))
      else some ((V.agg [(V.int .i64 r12.1), (V.inl Zc []), (V.inl Zc r53.1), (V.int .i64 (IntKind.i64.wrap (1 + r89.1)))]), (Zb r89.2))
    else some ((V.agg [(V.int .i64 r12.1), (V.inl Zc []), (V.inl Zc r53.1), (V.int .i64 0)]), (Zb r53.2))
  else bif (decide (r12.1 = 6)) then
    Option.bind (Zco (Zb r12.2)) fun r91 =>
    bif (!(decide (r12.1 = 0))) then
      bif (!(decide (r12.1 = 4))) then
        bif (!(decide (r12.1 = 5))) then
          Option.bind (ZaS (Zb r91.2)) fun r92 =>
          bif (decide (r12.1 = 4)) then
            Option.bind (Zh (Zb r92.2) 2) fun r93 =>
            some ((V.agg [(V.int .i64 r12.1), (V.inl Zc r92.1), (V.inl Zc r91.1), (V.int .i64 r93.1)]), (Zb r93.2))
          else bif (decide (r12.1 = 2)) then
            Option.bind (Zh (Zb r92.2) (IntKind.i64.wrap (index + 1))) fun r94 =>
            Option.bind (Zh (Zb r94.2) 2) fun r95 =>
            some ((V.agg [(V.int .i64 r12.1), (V.inl Zc r92.1), (V.inl Zc r91.1), (V.int .i64 (IntKind.i64.wrap (r94.1 * r95.1)))]), (Zb r95.2))
          else bif (decide (r12.1 = 5)) then
            Option.bind (Zh (Zb r92.2) 4) fun r96 =>
            bif (decide ((0 : Int) < index)) then
              Option.bind (Zh (Zb r96.2) index) fun r97 =>
              some ((V.agg [(V.int .i64 r12.1), (V.inl Zc r92.1), (V.inl Zc r91.1), (V.int .i64 (IntKind.i64.wrap (1 + r97.1)))]), (Zb r97.2))
            else some ((V.agg [(V.int .i64 r12.1), (V.inl Zc r92.1), (V.inl Zc r91.1), (V.int .i64 (IntKind.i64.wrap (1 + r96.1)))]), (Zb r96.2))
          else bif (decide (r12.1 = 6)) then
            Option.bind (Zh (Zb r92.2) 4) fun r98 =>
            bif (decide ((0 : Int) < index)) then
              Option.bind (Zh (Zb r98.2) index) fun r99 =>
              some ((V.agg [(V.int .i64 r12.1), (V.inl Zc r92.1), (V.inl Zc r91.1), (V.int .i64 (IntKind.i64.wrap (1 + r99.1)))]), (Zb r99.2))
            else some ((V.agg [(V.int .i64 r12.1), (V.inl Zc r92.1), (V.inl Zc r91.1), (V.int .i64 (IntKind.i64.wrap (1 + r98.1)))]), (Zb r98.2))
          else bif (decide (r12.1 = 7)) then
            Option.bind (Zh (Zb r92.2) 4) fun r100 =>
            bif (decide ((0 : Int) < index)) then
              Option.bind (Zh (Zb r100.2) index) fun r101 =>
              some ((V.agg [(V.int .i64 r12.1), (V.inl Zc r92.1), (V.inl Zc r91.1), (V.int .i64 (IntKind.i64.wrap (1 + r101.1)))]), (Zb r101.2))
            else some ((V.agg [(V.int .i64 r12.1), (V.inl Zc r92.1), (V.inl Zc r91.1), (V.int .i64 (IntKind.i64.wrap (1 + r100.1)))]), (Zb r100.2))
          else some ((V.agg [(V.int .i64 r12.1), (V.inl Zc r92.1), (V.inl Zc r91.1), (V.int .i64 0)]), (Zb r92.2))
        else bif (decide (r12.1 = 4)) then
          Option.bind (Zh (Zb r91.2) 2) fun r102 =>
          some ((V.agg [(V.int .i64 r12.1), (V.inl Zc []), (V.inl Zc r91.1), (V.int .i64 r102.1)]), (Zb r102.2))
        else bif (decide (r12.1 = 2)) then
          Option.bind (Zh (Zb r91.2) (IntKind.i64.wrap (index + 1))) fun r103 =>
          Option.bind (Zh (Zb r103.2) 2) fun r104 =>
          some ((V.agg [(V.int .i64 r12.1), (V.inl Zc []), (V.inl Zc r91.1), (V.int .i64 (IntKind.i64.wrap (r103.1 * r104.1)))]), (Zb r104.2))
        else bif (decide (r12.1 = 5)) then
          Option.bind (Zh (Zb r91.2) 4) fun r105 =>
          bif (decide ((0 : Int) < index)) then
            Option.bind (Zh (Zb r105.2) index) fun r106 =>
            some ((V.agg [(V.int .i64 r12.1), (V.inl Zc []), (V.inl Zc r91.1), (V.int .i64 (IntKind.i64.wrap (1 + r106.1)))]), (Zb r106.2))
          else some ((V.agg [(V.int .i64 r12.1), (V.inl Zc []), (V.inl Zc r91.1), (V.int .i64 (IntKind.i64.wrap (1 + r105.1)))]), (Zb r105.2))
        else bif (decide (r12.1 = 6)) then
          Option.bind (Zh (Zb r91.2) 4) fun r107 =>
          bif (decide ((0 : Int) < index)) then
            Option.bind (Zh (Zb r107.2) index) fun r108 =>
            some ((V.agg [(V.int .i64 r12.1), (V.inl Zc []), (V.inl Zc r91.1), (V.int .i64 (IntKind.i64.wrap (1 + r108.1)))]), (Zb r108.2))
          else some ((V.agg [(V.int .i64 r12.1), (V.inl Zc []), (V.inl Zc r91.1), (V.int .i64 (IntKind.i64.wrap (1 + r107.1)))]), (Zb r107.2))
        else bif (decide (r12.1 = 7)) then
          Option.bind (Zh (Zb r91.2) 4) fun r109 =>
          bif (decide ((0 : Int) < index)) then
            Option.bind (Zh (Zb r109.2) index) fun r110 =>
            some ((V.agg [(V.int .i64 r12.1), (V.inl Zc []), (V.inl Zc r91.1), (V.int .i64 (IntKind.i64.wrap (1 + r110.1)))]), (Zb r110.2))
          else some ((V.agg [(V.int .i64 r12.1), (V.inl Zc []), (V.inl Zc r91.1), (V.int .i64 (IntKind.i64.wrap (1 + r109.1)))]), (Zb r109.2))
        else some ((V.agg [(V.int .i64 r12.1), (V.inl Zc []), (V.inl Zc r91.1), (V.int .i64 0)]), (Zb r91.2))
      else bif (decide (r12.1 = 4)) then
        Option.bind (Zh (Zb r91.2) 2) fun r111 =>
        some ((V.agg [(V.int .i64 r12.1), (V.inl Zc []), (V.inl Zc r91.1), (V.int .i64 r111.1)]), (Zb r111.2))
      else bif (decide (r12.1 = 2)) then
        Option.bind (Zh (Zb r91.2) (IntKind.i64.wrap (index + 1))) fun r112 =>
        Option.bind (Zh (Zb r112.2) 2) fun r113 =>
        some ((V.agg [(V.int .i64 r12.1), (V.inl Zc []), (V.inl Zc r91.1), (V.int .i64 (IntKind.i64.wrap (r112.1 * r113.1)))]), (Zb r113.2))
      else bif (decide (r12.1 = 5)) then
        Option.bind (Zh (Zb r91.2) 4) fun r114 =>
        bif (decide ((0 : Int) < index)) then
          Option.bind (Zh (Zb r114.2) index) fun r115 =>
          some ((V.agg [(V.int .i64 r12.1), (V.inl Zc []), (V.inl Zc r91.1), (V.int .i64 (IntKind.i64.wrap (1 + r115.1)))]), (Zb r115.2))
        else some ((V.agg [(V.int .i64 r12.1), (V.inl Zc []), (V.inl Zc r91.1), (V.int .i64 (IntKind.i64.wrap (1 + r114.1)))]), (Zb r114.2))
      else bif (decide (r12.1 = 6)) then
        Option.bind (Zh (Zb r91.2) 4) fun r116 =>
        bif (decide ((0 : Int) < index)) then
          Option.bind (Zh (Zb r116.2) index) fun r117 =>
          some ((V.agg [(V.int .i64 r12.1), (V.inl Zc []), (V.inl Zc r91.1), (V.int .i64 (IntKind.i64.wrap (1 + r117.1)))]), (Zb r117.2))
        else some ((V.agg [(V.int .i64 r12.1), (V.inl Zc []), (V.inl Zc r91.1), (V.int .i64 (IntKind.i64.wrap (1 + r116.1)))]), (Zb r116.2))
      else bif (decide (r12.1 = 7)) then
        Option.bind (Zh (Zb r91.2) 4) fun r118 =>
        bif (decide ((0 : Int) < index)) then
          Option.bind (Zh (Zb r118.2) index) fun r119 =>
          some ((V.agg [(V.int .i64 r12.1), (V.inl Zc []), (V.inl Zc r91.1), (V.int .i64 (IntKind.i64.wrap (1 + r119.1)))]), (Zb r119.2))
        else some ((V.agg [(V.int .i64 r12.1), (V.inl Zc []), (V.inl Zc r91.1), (V.int .i64 (IntKind.i64.wrap (1 + r118.1)))]), (Zb r118.2))
      else some ((V.agg [(V.int .i64 r12.1), (V.inl Zc []), (V.inl Zc r91.1), (V.int .i64 0)]), (Zb r91.2))
    else bif (decide (r12.1 = 4)) then
      Option.bind (Zh (Zb r91.2) 2) fun r120 =>
      some ((V.agg [(V.int .i64 r12.1), (V.inl Zc []), (V.inl Zc r91.1), (V.int .i64 r120.1)]), (Zb r120.2))
    else bif (decide (r12.1 = 2)) then
      Option.bind (Zh (Zb r91.2) (IntKind.i64.wrap (index + 1))) fun r121 =>
      Option.bind (Zh (Zb r121.2) 2) fun r122 =>
      some ((V.agg [(V.int .i64 r12.1), (V.inl Zc []), (V.inl Zc r91.1), (V.int .i64 (IntKind.i64.wrap (r121.1 * r122.1)))]), (Zb r122.2))
    else bif (decide (r12.1 = 5)) then
      Option.bind (Zh (Zb r91.2) 4) fun r123 =>
      bif (decide ((0 : Int) < index)) then
        Option.bind (Zh (Zb r123.2) index) fun r124 =>
        some ((V.agg [(V.int .i64 r12.1), (V.inl Zc []), (V.inl Zc r91.1), (V.int .i64 (IntKind.i64.wrap (1 + r124.1)))]), (Zb r124.2))
      else some ((V.agg [(V.int .i64 r12.1), (V.inl Zc []), (V.inl Zc r91.1), (V.int .i64 (IntKind.i64.wrap (1 + r123.1)))]), (Zb r123.2))
    else bif (decide (r12.1 = 6)) then
      Option.bind (Zh (Zb r91.2) 4) fun r125 =>
      bif (decide ((0 : Int) < index)) then
        Option.bind (Zh (Zb r125.2) index) fun r126 =>
        some ((V.agg [(V.int .i64 r12.1), (V.inl Zc []), (V.inl Zc r91.1), (V.int .i64 (IntKind.i64.wrap (1 + r126.1)))]), (Zb r126.2))
      else some ((V.agg [(V.int .i64 r12.1), (V.inl Zc []), (V.inl Zc r91.1), (V.int .i64 (IntKind.i64.wrap (1 + r125.1)))]), (Zb r125.2))
    else bif (decide (r12.1 = 7)) then
      Option.bind (Zh (Zb r91.2) 4) fun r127 =>
      bif (decide ((0 : Int) < index)) then
        Option.bind (Zh (Zb r127.2) index) fun r128 =>
        some ((V.agg [(V.int .i64 r12.1), (V.inl Zc []), (V.inl Zc r91.1), (V.int .i64 (IntKind.i64.wrap (1 + r128.1)))]), (Zb r128.2))
      else some ((V.agg [(V.int .i64 r12.1), (V.inl Zc []), (V.inl Zc r91.1), (V.int .i64 (IntKind.i64.wrap (1 + r127.1)))]), (Zb r127.2))
    else some ((V.agg [(V.int .i64 r12.1), (V.inl Zc []), (V.inl Zc r91.1), (V.int .i64 0)]), (Zb r91.2))
  else bif (!(decide (r12.1 = 0))) then
    bif (!(decide (r12.1 = 4))) then
      bif (!(decide (r12.1 = 5))) then
        Option.bind (ZaS (Zb r12.2)) fun r129 =>
        bif (decide (r12.1 = 4)) then
          Option.bind (Zh (Zb r129.2) 2) fun r130 =>
          some ((V.agg [(V.int .i64 r12.1), (V.inl Zc r129.1), (V.inl Zc []), (V.int .i64 r130.1)]), (Zb r130.2))
        else bif (decide (r12.1 = 2)) then
          Option.bind (Zh (Zb r129.2) (IntKind.i64.wrap (index + 1))) fun r131 =>
          Option.bind (Zh (Zb r131.2) 2) fun r132 =>
          some ((V.agg [(V.int .i64 r12.1), (V.inl Zc r129.1), (V.inl Zc []), (V.int .i64 (IntKind.i64.wrap (r131.1 * r132.1)))]), (Zb r132.2))
        else bif (decide (r12.1 = 5)) then
          Option.bind (Zh (Zb r129.2) 4) fun r133 =>
          bif (decide ((0 : Int) < index)) then
            Option.bind (Zh (Zb r133.2) index) fun r134 =>
            some ((V.agg [(V.int .i64 r12.1), (V.inl Zc r129.1), (V.inl Zc []), (V.int .i64 (IntKind.i64.wrap (1 + r134.1)))]), (Zb r134.2))
          else some ((V.agg [(V.int .i64 r12.1), (V.inl Zc r129.1), (V.inl Zc []), (V.int .i64 (IntKind.i64.wrap (1 + r133.1)))]), (Zb r133.2))
        else bif (decide (r12.1 = 6)) then
          Option.bind (Zh (Zb r129.2) 4) fun r135 =>
          bif (decide ((0 : Int) < index)) then
            Option.bind (Zh (Zb r135.2) index) fun r136 =>
            some ((V.agg [(V.int .i64 r12.1), (V.inl Zc r129.1), (V.inl Zc []), (V.int .i64 (IntKind.i64.wrap (1 + r136.1)))]), (Zb r136.2))
          else some ((V.agg [(V.int .i64 r12.1), (V.inl Zc r129.1), (V.inl Zc []), (V.int .i64 (IntKind.i64.wrap (1 + r135.1)))]), (Zb r135.2))
        else bif (decide (r12.1 = 7)) then
          Option.bind (Zh (Zb r129.2) 4) fun r137 =>
          bif (decide ((0 : Int) < index)) then
            Option.bind (Zh (Zb r137.2) index) fun r138 =>
            some ((V.agg [(V.int .i64 r12.1), (V.inl Zc r129.1), (V.inl Zc []), (V.int .i64 (IntKind.i64.wrap (1 + r138.1)))]), (Zb r138.2))
          else some ((V.agg [(V.int .i64 r12.1), (V.inl Zc r129.1), (V.inl Zc []), (V.int .i64 (IntKind.i64.wrap (1 + r137.1)))]), (Zb r137.2))
        else some ((V.agg [(V.int .i64 r12.1), (V.inl Zc r129.1), (V.inl Zc []), (V.int .i64 0)]), (Zb r129.2))
      else bif (decide (r12.1 = 4)) then
        Option.bind (Zh (Zb r12.2) 2) fun r139 =>
        some ((V.agg [(V.int .i64 r12.1), (V.inl Zc []), (V.inl Zc []), (V.int .i64 r139.1)]), (Zb r139.2))
      else bif (decide (r12.1 = 2)) then
        Option.bind (Zh (Zb r12.2) (IntKind.i64.wrap (index + 1))) fun r140 =>
        Option.bind (Zh (Zb r140.2) 2) fun r141 =>
        some ((V.agg [(V.int .i64 r12.1), (V.inl Zc []), (V.inl Zc []), (V.int .i64 (IntKind.i64.wrap (r140.1 * r141.1)))]), (Zb r141.2))
      else bif (decide (r12.1 = 5)) then
        Option.bind (Zh (Zb r12.2) 4) fun r142 =>
        bif (decide ((0 : Int) < index)) then
          Option.bind (Zh (Zb r142.2) index) fun r143 =>
          some ((V.agg [(V.int .i64 r12.1), (V.inl Zc []), (V.inl Zc []), (V.int .i64 (IntKind.i64.wrap (1 + r143.1)))]), (Zb r143.2))
        else some ((V.agg [(V.int .i64 r12.1), (V.inl Zc []), (V.inl Zc []), (V.int .i64 (IntKind.i64.wrap (1 + r142.1)))]), (Zb r142.2))
      else bif (decide (r12.1 = 6)) then
        Option.bind (Zh (Zb r12.2) 4) fun r144 =>
        bif (decide ((0 : Int) < index)) then
          Option.bind (Zh (Zb r144.2) index) fun r145 =>
          some ((V.agg [(V.int .i64 r12.1), (V.inl Zc []), (V.inl Zc []), (V.int .i64 (IntKind.i64.wrap (1 + r145.1)))]), (Zb r145.2))
        else some ((V.agg [(V.int .i64 r12.1), (V.inl Zc []), (V.inl Zc []), (V.int .i64 (IntKind.i64.wrap (1 + r144.1)))]), (Zb r144.2))
      else bif (decide (r12.1 = 7)) then
        Option.bind (Zh (Zb r12.2) 4) fun r146 =>
        bif (decide ((0 : Int) < index)) then
          Option.bind (Zh (Zb r146.2) index) fun r147 =>
          some ((V.agg [(V.int .i64 r12.1), (V.inl Zc []), (V.inl Zc []), (V.int .i64 (IntKind.i64.wrap (1 + r147.1)))]), (Zb r147.2))
        else some ((V.agg [(V.int .i64 r12.1), (V.inl Zc []), (V.inl Zc []), (V.int .i64 (IntKind.i64.wrap (1 + r146.1)))]), (Zb r146.2))
      else some ((V.agg [(V.int .i64 r12.1), (V.inl Zc []), (V.inl Zc []), (V.int .i64 0)]), (Zb r12.2))
    else bif (decide (r12.1 = 4)) then
      Option.bind (Zh (Zb r12.2) 2) fun r148 =>
      some ((V.agg [(V.int .i64 r12.1), (V.inl Zc []), (V.inl Zc []), (V.int .i64 r148.1)]), (Zb r148.2))
    else bif (decide (r12.1 = 2)) then
      Option.bind (Zh (Zb r12.2) (IntKind.i64.wrap (index + 1))) fun r149 =>
      Option.bind (Zh (Zb r149.2) 2) fun r150 =>
      some ((V.agg [(V.int .i64 r12.1), (V.inl Zc []), (V.inl Zc []), (V.int .i64 (IntKind.i64.wrap (r149.1 * r150.1)))]), (Zb r150.2))
    else bif (decide (r12.1 = 5)) then
      Option.bind (Zh (Zb r12.2) 4) fun r151 =>
      bif (decide ((0 : Int) < index)) then
        Option.bind (Zh (Zb r151.2) index) fun r152 =>
        some ((V.agg [(V.int .i64 r12.1), (V.inl Zc []), (V.inl Zc []), (V.int .i64 (IntKind.i64.wrap (1 + r152.1)))]), (Zb r152.2))
      else some ((V.agg [(V.int .i64 r12.1), (V.inl Zc []), (V.inl Zc []), (V.int .i64 (IntKind.i64.wrap (1 + r151.1)))]), (Zb r151.2))
    else bif (decide (r12.1 = 6)) then
      Option.bind (Zh (Zb r12.2) 4) fun r153 =>
      bif (decide ((0 : Int) < index)) then
        Option.bind (Zh (Zb r153.2) index) fun r154 =>
        some ((V.agg [(V.int .i64 r12.1), (V.inl Zc []), (V.inl Zc []), (V.int .i64 (IntKind.i64.wrap (1 + r154.1)))]), (Zb r154.2))
      else some ((V.agg [(V.int .i64 r12.1), (V.inl Zc []), (V.inl Zc []), (V.int .i64 (IntKind.i64.wrap (1 + r153.1)))]), (Zb r153.2))
    else bif (decide (r12.1 = 7)) then
      Option.bind (Zh (Zb r12.2) 4) fun r155 =>
      bif (decide ((0 : Int) < index)) then
        Option.bind (Zh (Zb r155.2) index) fun r156 =>
        some ((V.agg [(V.int .i64 r12.1), (V.inl Zc []), (V.inl Zc []), (V.int .i64 (IntKind.i64.wrap (1 + r156.1)))]), (Zb r156.2))
      else some ((V.agg [(V.int .i64 r12.1), (V.inl Zc []), (V.inl Zc []), (V.int .i64 (IntKind.i64.wrap (1 + r155.1)))]), (Zb r155.2))
    else some ((V.agg [(V.int .i64 r12.1), (V.inl Zc []), (V.inl Zc []), (V.int .i64 0)]), (Zb r12.2))
  else bif (decide (r12.1 = 4)) then
    Option.bind (Zh (Zb r12.2) 2) fun r157 =>
    some ((V.agg [(V.int .i64 r12.1), (V.inl Zc []), (V.inl Zc []), (V.int .i64 r157.1)]), (Zb r157.2))
  else bif (decide (r12.1 = 2)) then
    Option.bind (Zh (Zb r12.2) (IntKind.i64.wrap (index + 1))) fun r158 =>
    Option.bind (Zh (Zb r158.2) 2) fun r159 =>
    some ((V.agg [(V.int .i64 r12.1), (V.inl Zc []), (V.inl Zc []), (V.int .i64 (IntKind.i64.wrap (r158.1 * r159.1)))]), (Zb r159.2))
  else bif (decide (r12.1 = 5)) then
    Option.bind (Zh (Zb r12.2) 4) fun r160 =>
    bif (decide ((0 : Int) < index)) then
      Option.bind (Zh (Zb r160.2) index) fun r161 =>
      some ((V.agg [(V.int .i64 r12.1), (V.inl Zc []), (V.inl Zc []), (V.int .i64 (IntKind.i64.wrap (1 + r161.1)))]), (Zb r161.2))
    else some ((V.agg [(V.int .i64 r12.1), (V.inl Zc []), (V.inl Zc []), (V.int .i64 (IntKind.i64.wrap (1 + r160.1)))]), (Zb r160.2))
  else bif (decide (r12.1 = 6)) then
    Option.bind (Zh (Zb r12.2) 4) fun r162 =>
    bif (decide ((0 : Int) < index)) then
      Option.bind (Zh (Zb r162.2) index) fun r163 =>
      some ((V.agg [(V.int .i64 r12.1), (V.inl Zc []), (V.inl Zc []), (V.int .i64 (IntKind.i64.wrap (1 + r163.1)))]), (Zb r163.2))
    else some ((V.agg [(V.int .i64 r12.1), (V.inl Zc []), (V.inl Zc []), (V.int .i64 (IntKind.i64.wrap (1 + r162.1)))]), (Zb r162.2))
  else bif (decide (r12.1 = 7)) then
    Option.bind (Zh (Zb r12.2) 4) fun r164 =>
    bif (decide ((0 : Int) < index)) then
      Option.bind (Zh (Zb r164.2) index) fun r165 =>
      some ((V.agg [(V.int .i64 r12.1), (V.inl Zc []), (V.inl Zc []), (V.int .i64 (IntKind.i64.wrap (1 + r165.1)))]), (Zb r165.2))
    else some ((V.agg [(V.int .i64 r12.1), (V.inl Zc []), (V.inl Zc []), (V.int .i64 (IntKind.i64.wrap (1 + r164.1)))]), (Zb r164.2))
  else some ((V.agg [(V.int .i64 r12.1), (V.inl Zc []), (V.inl Zc []), (V.int .i64 0)]), (Zb r12.2))
def ZH (c : V) (n : Int) : Option (Bool × V) :=
  Option.bind (Zh (Zb c) n) fun r168 =>
  some ((decide (r168.1 = 0)), (Zb r168.2))
def Zb8 : Nat → List V → Int → V → Option (Nat × Int)
  | 0, _, _, _ => none
  | k_ + 1, key1, i5, b0 =>
    bif (decide (i5 < (((gl b0 1).length : Nat) : Int))) then
      bif (Zm i5 ((gl b0 1).length)) then
        bif (Zbx ((gl (rd (gl b0 1) i5.toNat) 0).map Zay) (key1.map Zay)) then
          some (0, i5)
        else Zb8 k_ key1 (IntKind.i64.wrap (i5 + 1)) (Za b0)
      else none
    else some (1, 0)
def Zbb (s : V) (key : List V) : Option (Int) :=
  Option.bind (Zb8 (((((gl (Za s) 1).length : Nat) : Int) - 0).toNat + 1) key 0 (Za s)) fun r171 =>
  bif (Nat.beq r171.1 0) then
    some r171.2
  else some (-1)
def ZbT : Nat → List V → Int → V → Option (Nat × Int)
  | 0, _, _, _ => none
  | k_ + 1, key1, i5, b0 =>
    bif (decide (i5 < (((gl b0 2).length : Nat) : Int))) then
      bif (Zm i5 ((gl b0 2).length)) then
        bif (Zbx ((gl (rd (gl b0 2) i5.toNat) 0).map Zay) (key1.map Zay)) then
          some (0, i5)
        else ZbT k_ key1 (IntKind.i64.wrap (i5 + 1)) (Za b0)
      else none
    else some (1, 0)
def ZdJ (s : V) (key : List V) : Option (Int) :=
  Option.bind (ZbT (((((gl (Za s) 2).length : Nat) : Int) - 0).toNat + 1) key 0 (Za s)) fun r174 =>
  bif (Nat.beq r174.1 0) then
    some r174.2
  else some (-1)
def ZbU : Nat → Int → Int → V → Option (Nat × Int)
  | 0, _, _, _ => none
  | k_ + 1, id1, i5, b0 =>
    bif (decide (i5 < (((gl b0 4).length : Nat) : Int))) then
      bif (Zm i5 ((gl b0 4).length)) then
        bif (decide ((gi (rd (gl b0 4) i5.toNat) 0) = id1)) then
          some (0, i5)
        else ZbU k_ id1 (IntKind.i64.wrap (i5 + 1)) (Za b0)
      else none
    else some (1, 0)
def ZbF (s : V) (id : Int) : Option (Int) :=
  Option.bind (ZbU (((((gl (Za s) 4).length : Nat) : Int) - 0).toNat + 1) id 0 (Za s)) fun r183 =>
  bif (Nat.beq r183.1 0) then
    some r183.2
  else some (-1)
def Zcc : Nat → V → List V → List V → List V → List V → Option (V × List V × List V × List V × List V)
  | 0, _, _, _, _, _ => none
  | k_ + 1, b0, r1, r2, r3, r4 =>
    bif (decide ((10 : Int) < ((r2.length : Nat) : Int))) then
      bif (Zm 0 r2.length) then
        bif (decide ((1 : Int) ≤ ((r2.length : Nat) : Int))) then
          none
        else none
      else none
    else some ((V.agg [(V.int .i64 (gi b0 0)), (V.sl 1 Zg 0 none), (V.sl 2 Zf 0 none), (V.int .i64 (gi b0 3)), (V.sl 3 Zd 0 none), (V.sl 4 Ze 0 none)]), r1, r2, r3, r4)
def Zda (s : V) (i : Int) : Option (V) :=
  bif (Zm i ((gl s 1).length)) then
    bif ((decide ((0 : Int) ≤ i)) && (decide (i ≤ (((gl s 1).length : Nat) : Int)))) then
      bif ((Zw (0 + (((gl s 1).take i.toNat).length)) 64) && true) then
        bif ((decide ((0 : Int) ≤ (IntKind.i64.wrap (i + 1)))) && (decide ((IntKind.i64.wrap (i + 1)) ≤ (((gl s 1).length : Nat) : Int)))) then
          bif ((Zw ((((gl s 1).take i.toNat).length) + ((((gl s 1).drop (0 + ((IntKind.i64.wrap (i + 1)).toNat))).take (((gl s 1).length) - ((IntKind.i64.wrap (i + 1)).toNat))).length)) 64) && true) then
            bif ((Zw (0 + ((gl s 2).length)) 32) && true) then
              bif ((Zw (((gl s 2).length) + 1) 32) && true) then
                Option.bind (Zcc ((((((gl s 2) ++ [(V.agg [(V.inl Zc (gl (rd (gl s 1) (0 + i.toNat)) 0)), (V.int .i64 (gi s 0))])]).length : Nat) : Int) - 10).toNat + 1) (V.agg [(V.int .i64 (gi s 0)), (V.sl 1 Zg 0 none), (V.sl 2 Zf 0 none), (V.int .i64 (gi s 3)), (V.sl 3 Zd 0 none), (V.sl 4 Ze 0 none)]) (((gl s 1).take i.toNat) ++ (((gl s 1).drop (0 + ((IntKind.i64.wrap (i + 1)).toNat))).take (((gl s 1).length) - ((IntKind.i64.wrap (i + 1)).toNat)))) ((gl s 2) ++ [(V.agg [(V.inl Zc (gl (rd (gl s 1) (0 + i.toNat)) 0)), (V.int .i64 (gi s 0))])]) (gl s 4) (gl s 5)) fun r186 =>
                some (V.agg [(V.int .i64 (gi r186.1 0)), (V.inl Zg r186.2.1), (V.inl Zf r186.2.2.1), (V.int .i64 (gi r186.1 3)), (V.inl Zd r186.2.2.2.1), (V.inl Ze r186.2.2.2.2)])
              else none
            else none
          else none
        else none
      else none
    else none
  else none
def Z9 : Nat → List V → List V → Int → V → List V → List V → List V → List V → Option (List V × List V × Int × V × List V × List V × List V × List V)
  | 0, _, _, _, _, _, _, _, _ => none
  | k_ + 1, key1, val2, i7, b0, r1, r2, r3, r4 =>
    bif (decide (i7 < ((r1.length : Nat) : Int))) then
      bif (Zm i7 r1.length) then
        bif (Zca ((gl (rd r1 (0 + i7.toNat)) 0).map Zay) (key1.map Zay)) then
          Z9 k_ key1 val2 (IntKind.i64.wrap (i7 + 1)) (V.agg [(V.int .i64 (gi b0 0)), (V.sl 1 Zg 0 none), (V.sl 2 Zf 0 none), (V.int .i64 (gi b0 3)), (V.sl 3 Zd 0 none), (V.sl 4 Ze 0 none)]) r1 r2 r3 r4
        else some (key1, val2, i7, (V.agg [(V.int .i64 (gi b0 0)), (V.sl 1 Zg 0 none), (V.sl 2 Zf 0 none), (V.int .i64 (gi b0 3)), (V.sl 3 Zd 0 none), (V.sl 4 Ze 0 none)]), r1, r2, r3, r4)
      else none
    else some (key1, val2, i7, (V.agg [(V.int .i64 (gi b0 0)), (V.sl 1 Zg 0 none), (V.sl 2 Zf 0 none), (V.int .i64 (gi b0 3)), (V.sl 3 Zd 0 none), (V.sl 4 Ze 0 none)]), r1, r2, r3, r4)
def Zaq (s : V) (key : List V) (val : List V) : Option (Bool × V) :=
  Option.bind (Zbb (Za s) key) fun r215 =>
  bif (decide ((0 : Int) ≤ r215)) then
    bif ((Zw (0 + val.length) 1) && true) then
      bif (Zm r215 ((gl s 1).length)) then
        bif (Zm r215 (((gl s 1).set (0 + r215.toNat) (V.agg [(V.inl Zc (gl (rd (gl s 1) (0 + r215.toNat)) 0)), (V.inl Zc val), (V.int .i64 (gi (rd (gl s 1) (0 + r215.toNat)) 2)), (V.int .i64 (gi (rd (gl s 1) (0 + r215.toNat)) 3))])).length)) then
          some (true, (V.agg [(V.int .i64 (gi s 0)), (V.inl Zg (((gl s 1).set (0 + r215.toNat) (V.agg [(V.inl Zc (gl (rd (gl s 1) (0 + r215.toNat)) 0)), (V.inl Zc val), (V.int .i64 (gi (rd (gl s 1) (0 + r215.toNat)) 2)), (V.int .i64 (gi (rd (gl s 1) (0 + r215.toNat)) 3))])).set (0 + r215.toNat) (V.agg [(V.inl Zc (gl (rd ((gl s 1).set (0 + r215.toNat) (V.agg [(V.inl Zc (gl (rd (gl s 1) (0 + r215.toNat)) 0)), (V.inl Zc val), (V.int .i64 (gi (rd (gl s 1) (0 + r215.toNat)) 2)), (V.int .i64 (gi (rd (gl s 1) (0 + r215.toNat)) 3))])) (0 + r215.toNat)) 0)), (V.inl Zc (gl (rd ((gl s 1).set (0 + r215.toNat) (V.agg [(V.inl Zc (gl (rd (gl s 1) (0 + r215.toNat)) 0)), (V.inl Zc val), (V.int .i64 (gi (rd (gl s 1) (0 + r215.toNat)) 2)), (V.int .i64 (gi (rd (gl s 1) (0 + r215.toNat)) 3))])) (0 + r215.toNat)) 1)), (V.int .i64 (gi s 0)), (V.int .i64 (gi (rd ((gl s 1).set (0 + r215.toNat) (V.agg [(V.inl Zc (gl (rd (gl s 1) (0 + r215.toNat)) 0)), (V.inl Zc val), (V.int .i64 (gi (rd (gl s 1) (0 + r215.toNat)) 2)), (V.int .i64 (gi (rd (gl s 1) (0 + r215.toNat)) 3))])) (0 + r215.toNat)) 3))]))), (V.inl Zf (gl s 2)), (V.int .i64 (gi s 3)), (V.inl Zd (gl s 4)), (V.inl Ze (gl s 5))]))
        else none
      else none
    else none
  else bif (decide ((20 : Int) ≤ (((gl s 1).length : Nat) : Int))) then
    some (false, (Za s))
  else Option.bind (ZdJ (Za s) key) fun r216 =>
  bif (decide ((0 : Int) ≤ r216)) then
    bif ((decide ((0 : Int) ≤ r216)) && (decide (r216 ≤ (((gl s 2).length : Nat) : Int)))) then
      bif ((Zw (0 + (((gl s 2).take r216.toNat).length)) 32) && true) then
        bif ((decide ((0 : Int) ≤ (IntKind.i64.wrap (r216 + 1)))) && (decide ((IntKind.i64.wrap (r216 + 1)) ≤ (((gl s 2).length : Nat) : Int)))) then
          bif ((Zw ((((gl s 2).take r216.toNat).length) + ((((gl s 2).drop (0 + ((IntKind.i64.wrap (r216 + 1)).toNat))).take (((gl s 2).length) - ((IntKind.i64.wrap (r216 + 1)).toNat))).length)) 32) && true) then
            Option.bind (Z9 (((((gl s 1).length : Nat) : Int) - 0).toNat + 1) key val 0 (V.agg [(V.int .i64 (gi s 0)), (V.sl 1 Zg 0 none), (V.sl 2 Zf 0 none), (V.int .i64 (gi s 3)), (V.sl 3 Zd 0 none), (V.sl 4 Ze 0 none)]) (gl s 1) (((gl s 2).take r216.toNat) ++ (((gl s 2).drop (0 + ((IntKind.i64.wrap (r216 + 1)).toNat))).take (((gl s 2).length) - ((IntKind.i64.wrap (r216 + 1)).toNat)))) (gl s 4) (gl s 5)) fun r217 =>
            bif ((decide ((0 : Int) ≤ r217.2.2.1)) && (decide (r217.2.2.1 ≤ ((r217.2.2.2.2.1.length : Nat) : Int)))) then
              bif ((Zw (0 + ((r217.2.2.2.2.1.take r217.2.2.1.toNat).length)) 64) && true) then
                bif ((Zw (0 + r217.1.length) 1) && true) then
                  bif ((Zw (0 + r217.2.1.length) 1) && true) then
                    bif ((Zw (((r217.2.2.2.2.1.take r217.2.2.1.toNat).length) + 1) 64) && true) then
                      bif ((decide ((0 : Int) ≤ r217.2.2.1)) && (decide (r217.2.2.1 ≤ ((r217.2.2.2.2.1.length : Nat) : Int)))) then
                        bif ((Zw ((((r217.2.2.2.2.1.take r217.2.2.1.toNat) ++ [(V.agg [(V.inl Zc r217.1), (V.inl Zc r217.2.1), (V.int .i64 (gi r217.2.2.2.1 0)), (V.int .i64 0)])]).length) + (((r217.2.2.2.2.1.drop (0 + r217.2.2.1.toNat)).take (r217.2.2.2.2.1.length - r217.2.2.1.toNat)).length)) 64) && true) then
                          some (true, (V.agg [(V.int .i64 (gi r217.2.2.2.1 0)), (V.inl Zg (((r217.2.2.2.2.1.take r217.2.2.1.toNat) ++ [(V.agg [(V.inl Zc r217.1), (V.inl Zc r217.2.1), (V.int .i64 (gi r217.2.2.2.1 0)), (V.int .i64 0)])]) ++ ((r217.2.2.2.2.1.drop (0 + r217.2.2.1.toNat)).take (r217.2.2.2.2.1.length - r217.2.2.1.toNat)))), (V.inl Zf r217.2.2.2.2.2.1), (V.int .i64 (gi r217.2.2.2.1 3)), (V.inl Zd r217.2.2.2.2.2.2.1), (V.inl Ze r217.2.2.2.2.2.2.2)]))
                        else none
                      else none
                    else none
                  else none
                else none
              else none
            else none
          else none
        else none
      else none
    else none
  else Option.bind (Z9 (((((gl s 1).length : Nat) : Int) - 0).toNat + 1) key val 0 (V.agg [(V.int .i64 (gi s 0)), (V.sl 1 Zg 0 none), (V.sl 2 Zf 0 none), (V.int .i64 (gi s 3)), (V.sl 3 Zd 0 none), (V.sl 4 Ze 0 none)]) (gl s 1) (gl s 2) (gl s 4) (gl s 5)) fun r218 =>
  bif ((decide ((0 : Int) ≤ r218.2.2.1)) && (decide (r218.2.2.1 ≤ ((r218.2.2.2.2.1.length : Nat) : Int)))) then
    bif ((Zw (0 + ((r218.2.2.2.2.1.take r218.2.2.1.toNat).length)) 64) && true) then
      bif ((Zw (0 + r218.1.length) 1) && true) then
        bif ((Zw (0 + r218.2.1.length) 1) && true) then
          bif ((Zw (((r218.2.2.2.2.1.take r218.2.2.1.toNat).length) + 1) 64) && true) then
            bif ((decide ((0 : Int) ≤ r218.2.2.1)) && (decide (r218.2.2.1 ≤ ((r218.2.2.2.2.1.length : Nat) : Int)))) then
              bif ((Zw ((((r218.2.2.2.2.1.take r218.2.2.1.toNat) ++ [(V.agg [(V.inl Zc r218.1), (V.inl Zc r218.2.1), (V.int .i64 (gi r218.2.2.2.1 0)), (V.int .i64 0)])]).length) + (((r218.2.2.2.2.1.drop (0 + r218.2.2.1.toNat)).take (r218.2.2.2.2.1.length - r218.2.2.1.toNat)).length)) 64) && true) then
                some (true, (V.agg [(V.int .i64 (gi r218.2.2.2.1 0)), (V.inl Zg (((r218.2.2.2.2.1.take r218.2.2.1.toNat) ++ [(V.agg [(V.inl Zc r218.1), (V.inl Zc r218.2.1), (V.int .i64 (gi r218.2.2.2.1 0)), (V.int .i64 0)])]) ++ ((r218.2.2.2.2.1.drop (0 + r218.2.2.1.toNat)).take (r218.2.2.2.2.1.length - r218.2.2.1.toNat)))), (V.inl Zf r218.2.2.2.2.2.1), (V.int .i64 (gi r218.2.2.2.1 3)), (V.inl Zd r218.2.2.2.2.2.2.1), (V.inl Ze r218.2.2.2.2.2.2.2)]))
              else none
            else none
          else none
        else none
      else none
    else none
  else none
def Zav : Nat → Int → V → V → List V → List V → List V → List V → Option (V × List V × List V × List V × List V)
  | 0, _, _, _, _, _, _, _ => none
  | k_ + 1, k5, b0, b1, r2, r3, r4, r5 =>
    bif (decide (k5 < ((r2.length : Nat) : Int))) then
      bif (Zm k5 r2.length) then
        bif (!(decide ((gi (rd r2 (0 + k5.toNat)) 3) = (gi b1 0)))) then
          Zav k_ (IntKind.i64.wrap (k5 + 1)) (V.agg [(V.int .i64 (gi b0 0)), (V.sl 2 Zg 0 none), (V.sl 3 Zf 0 none), (V.int .i64 (gi b0 3)), (V.sl 4 Zd 0 none), (V.sl 5 Ze 0 none)]) (ZD b1) r2 r3 r4 r5
        else bif (gb b1 1) then
          Option.bind (Zda (V.agg [(V.int .i64 (gi b0 0)), (V.inl Zg r2), (V.inl Zf r3), (V.int .i64 (gi b0 3)), (V.inl Zd r4), (V.inl Ze r5)]) k5) fun r224 =>
          Zav k_ (IntKind.i64.wrap ((IntKind.i64.wrap (k5 - 1)) + 1)) (V.agg [(V.int .i64 (gi r224 0)), (V.sl 2 Zg 0 none), (V.sl 3 Zf 0 none), (V.int .i64 (gi r224 3)), (V.sl 4 Zd 0 none), (V.sl 5 Ze 0 none)]) (ZD b1) (gl r224 1) (gl r224 2) (gl r224 4) (gl r224 5)
        else bif (Zm k5 r2.length) then
          bif (Zm k5 ((r2.set (0 + k5.toNat) (V.agg [(V.inl Zc (gl (rd r2 (0 + k5.toNat)) 0)), (V.inl Zc (gl (rd r2 (0 + k5.toNat)) 1)), (V.int .i64 (gi (rd r2 (0 + k5.toNat)) 2)), (V.int .i64 0)])).length)) then
            Zav k_ (IntKind.i64.wrap (k5 + 1)) (V.agg [(V.int .i64 (gi b0 0)), (V.sl 2 Zg 0 none), (V.sl 3 Zf 0 none), (V.int .i64 (gi b0 3)), (V.sl 4 Zd 0 none), (V.sl 5 Ze 0 none)]) (ZD b1) ((r2.set (0 + k5.toNat) (V.agg [(V.inl Zc (gl (rd r2 (0 + k5.toNat)) 0)), (V.inl Zc (gl (rd r2 (0 + k5.toNat)) 1)), (V.int .i64 (gi (rd r2 (0 + k5.toNat)) 2)), (V.int .i64 0)])).set (0 + k5.toNat) (V.agg [(V.inl Zc (gl (rd (r2.set (0 + k5.toNat) (V.agg [(V.inl Zc (gl (rd r2 (0 + k5.toNat)) 0)), (V.inl Zc (gl (rd r2 (0 + k5.toNat)) 1)), (V.int .i64 (gi (rd r2 (0 + k5.toNat)) 2)), (V.int .i64 0)])) (0 + k5.toNat)) 0)), (V.inl Zc (gl (rd (r2.set (0 + k5.toNat) (V.agg [(V.inl Zc (gl (rd r2 (0 + k5.toNat)) 0)), (V.inl Zc (gl (rd r2 (0 + k5.toNat)) 1)), (V.int .i64 (gi (rd r2 (0 + k5.toNat)) 2)), (V.int .i64 0)])) (0 + k5.toNat)) 1)), (V.int .i64 (gi b0 0)), (V.int .i64 (gi (rd (r2.set (0 + k5.toNat) (V.agg [(V.inl Zc (gl (rd r2 (0 + k5.toNat)) 0)), (V.inl Zc (gl (rd r2 (0 + k5.toNat)) 1)), (V.int .i64 (gi (rd r2 (0 + k5.toNat)) 2)), (V.int .i64 0)])) (0 + k5.toNat)) 3))])) r3 r4 r5
          else none
        else none
      else none
    else some ((V.agg [(V.int .i64 (gi b0 0)), (V.sl 1 Zg 0 none), (V.sl 2 Zf 0 none), (V.int .i64 (gi b0 3)), (V.sl 3 Zd 0 none), (V.sl 4 Ze 0 none)]), r2, r3, r4, r5)
def Zdb (s : V) (i : Int) : Option (V) :=
  bif (Zm i ((gl s 4).length)) then
    bif ((decide ((0 : Int) ≤ i)) && (decide (i ≤ (((gl s 4).length : Nat) : Int)))) then
      bif ((Zw (0 + (((gl s 4).take i.toNat).length)) 16) && true) then
        bif ((decide ((0 : Int) ≤ (IntKind.i64.wrap (i + 1)))) && (decide ((IntKind.i64.wrap (i + 1)) ≤ (((gl s 4).length : Nat) : Int)))) then
          bif ((Zw ((((gl s 4).take i.toNat).length) + (((gl s 4).drop (0 + ((IntKind.i64.wrap (i + 1)).toNat))).length)) 16) && true) then
            Option.bind (Zav (((((gl s 1).length : Nat) : Int) - 0).toNat + 1) 0 (V.agg [(V.int .i64 (gi s 0)), (V.sl 2 Zg 0 none), (V.sl 3 Zf 0 none), (V.int .i64 (gi s 3)), (V.sl 4 Zd 0 none), (V.sl 5 Ze 0 none)]) (ZD (rd (gl s 4) (0 + i.toNat))) (gl s 1) (gl s 2) (((gl s 4).take i.toNat) ++ ((gl s 4).drop (0 + ((IntKind.i64.wrap (i + 1)).toNat)))) (gl s 5)) fun r225 =>
            some (V.agg [(V.int .i64 (gi r225.1 0)), (V.inl Zg r225.2.1), (V.inl Zf r225.2.2.1), (V.int .i64 (gi r225.1 3)), (V.inl Zd r225.2.2.2.1), (V.inl Ze r225.2.2.2.2)])
          else none
        else none
      else none
    else none
  else none
def Zbj (s : V) (o : V) : Option (Int × V) :=
  bif (decide ((0 : Int) < (((gl o 1).length : Nat) : Int))) then
    Option.bind (Zbb (Za s) (gl o 1)) fun r214 =>
    bif (decide ((gi o 0) = 1)) then
      Option.bind (Zaq (Za s) (gl o 1) (gl o 2)) fun r219 =>
      bif (!r219.1) then
        some (4, (Za r219.2))
      else some (0, (Za r219.2))
    else bif (decide ((gi o 0) = 2)) then
      bif (decide ((0 : Int) ≤ r214)) then
        bif (Zm r214 ((gl s 1).length)) then
          bif (!(decide ((gi (rd (gl s 1) (0 + r214.toNat)) 2) = (gi o 3)))) then
            some (3, (Za s))
          else Option.bind (Zaq (Za s) (gl o 1) (gl o 2)) fun r220 =>
          bif (!r220.1) then
            some (4, (Za r220.2))
          else some (0, (Za r220.2))
        else none
      else bif (!(decide ((0 : Int) = (gi o 3)))) then
        some (3, (Za s))
      else Option.bind (Zaq (Za s) (gl o 1) (gl o 2)) fun r221 =>
      bif (!r221.1) then
        some (4, (Za r221.2))
      else some (0, (Za r221.2))
    else bif (decide ((gi o 0) = 3)) then
      bif (decide (r214 < 0)) then
        some (1, (Za s))
      else Option.bind (Zda (Za s) r214) fun r222 =>
      some (0, (Za r222))
    else bif (decide ((gi o 0) = 4)) then
      bif (decide ((8 : Int) ≤ (((gl s 4).length : Nat) : Int))) then
        some (4, (Za s))
      else bif ((Zw (0 + ((gl s 4).length)) 16) && true) then
        bif ((Zw (((gl s 4).length) + 1) 16) && true) then
          some (0, (V.agg [(V.int .i64 (gi s 0)), (V.inl Zg (gl s 1)), (V.inl Zf (gl s 2)), (V.int .i64 (gi s 3)), (V.inl Zd ((gl s 4) ++ [(V.agg [(V.int .i64 (gi s 0)), (V.bool (decide ((gi o 3) = 1)))])])), (V.inl Ze (gl s 5))]))
        else none
      else none
    else bif (decide ((gi o 0) = 5)) then
      Option.bind (ZbF (Za s) (gi o 3)) fun r223 =>
      bif (decide (r223 < 0)) then
        some (1, (Za s))
      else Option.bind (Zdb (Za s) r223) fun r226 =>
      some (0, (Za r226))
    else bif (decide ((gi o 0) = 6)) then
      Option.bind (ZbF (Za s) (gi o 3)) fun r227 =>
      bif (decide (r227 < 0)) then
        some (1, (Za s))
      else bif (decide ((0 : Int) ≤ r214)) then
        bif (Zm r214 ((gl s 1).length)) then
          bif (!(decide ((gi (rd (gl s 1) (0 + r214.toNat)) 3) = 0))) then
            bif (Zm r214 ((gl s 1).length)) then
              bif (!(decide ((gi (rd (gl s 1) (0 + r214.toNat)) 3) = (gi o 3)))) then
                some (2, (Za s))
              else Option.bind (Zaq (Za s) (gl o 1) (gl o 2)) fun r228 =>
              bif (!r228.1) then
                some (4, (Za r228.2))
              else Option.bind (Zbb (Za r228.2) (gl o 1)) fun r229 =>
              bif (Zm r229 ((gl r228.2 1).length)) then
                some (0, (V.agg [(V.int .i64 (gi r228.2 0)), (V.inl Zg ((gl r228.2 1).set (0 + r229.toNat) (V.agg [(V.inl Zc (gl (rd (gl r228.2 1) (0 + r229.toNat)) 0)), (V.inl Zc (gl (rd (gl r228.2 1) (0 + r229.toNat)) 1)), (V.int .i64 (gi (rd (gl r228.2 1) (0 + r229.toNat)) 2)), (V.int .i64 (gi o 3))]))), (V.inl Zf (gl r228.2 2)), (V.int .i64 (gi r228.2 3)), (V.inl Zd (gl r228.2 4)), (V.inl Ze (gl r228.2 5))]))
              else none
            else none
          else Option.bind (Zaq (Za s) (gl o 1) (gl o 2)) fun r230 =>
          bif (!r230.1) then
            some (4, (Za r230.2))
          else Option.bind (Zbb (Za r230.2) (gl o 1)) fun r231 =>
          bif (Zm r231 ((gl r230.2 1).length)) then
            some (0, (V.agg [(V.int .i64 (gi r230.2 0)), (V.inl Zg ((gl r230.2 1).set (0 + r231.toNat) (V.agg [(V.inl Zc (gl (rd (gl r230.2 1) (0 + r231.toNat)) 0)), (V.inl Zc (gl (rd (gl r230.2 1) (0 + r231.toNat)) 1)), (V.int .i64 (gi (rd (gl r230.2 1) (0 + r231.toNat)) 2)), (V.int .i64 (gi o 3))]))), (V.inl Zf (gl r230.2 2)), (V.int .i64 (gi r230.2 3)), (V.inl Zd (gl r230.2 4)), (V.inl Ze (gl r230.2 5))]))
          else none
        else none
      else Option.bind (Zaq (Za s) (gl o 1) (gl o 2)) fun r232 =>
      bif (!r232.1) then
        some (4, (Za r232.2))
      else Option.bind (Zbb (Za r232.2) (gl o 1)) fun r233 =>
      bif (Zm r233 ((gl r232.2 1).length)) then
        some (0, (V.agg [(V.int .i64 (gi r232.2 0)), (V.inl Zg ((gl r232.2 1).set (0 + r233.toNat) (V.agg [(V.inl Zc (gl (rd (gl r232.2 1) (0 + r233.toNat)) 0)), (V.inl Zc (gl (rd (gl r232.2 1) (0 + r233.toNat)) 1)), (V.int .i64 (gi (rd (gl r232.2 1) (0 + r233.toNat)) 2)), (V.int .i64 (gi o 3))]))), (V.inl Zf (gl r232.2 2)), (V.int .i64 (gi r232.2 3)), (V.inl Zd (gl r232.2 4)), (V.inl Ze (gl r232.2 5))]))
      else none
    else bif (decide ((gi o 0) = 7)) then
      bif (decide (r214 < 0)) then
        some (1, (Za s))
      else bif (Zm r214 ((gl s 1).length)) then
        bif (!(decide ((gi (rd (gl s 1) (0 + r214.toNat)) 3) = (gi o 3)))) then
          some (1, (Za s))
        else bif (Zm r214 ((gl s 1).length)) then
          bif (Zm r214 (((gl s 1).set (0 + r214.toNat) (V.agg [(V.inl Zc (gl (rd (gl s 1) (0 + r214.toNat)) 0)), (V.inl Zc (gl (rd (gl s 1) (0 + r214.toNat)) 1)), (V.int .i64 (gi (rd (gl s 1) (0 + r214.toNat)) 2)), (V.int .i64 0)])).length)) then
            some (0, (V.agg [(V.int .i64 (gi s 0)), (V.inl Zg (((gl s 1).set (0 + r214.toNat) (V.agg [(V.inl Zc (gl (rd (gl s 1) (0 + r214.toNat)) 0)), (V.inl Zc (gl (rd (gl s 1) (0 + r214.toNat)) 1)), (V.int .i64 (gi (rd (gl s 1) (0 + r214.toNat)) 2)), (V.int .i64 0)])).set (0 + r214.toNat) (V.agg [(V.inl Zc (gl (rd ((gl s 1).set (0 + r214.toNat) (V.agg [(V.inl Zc (gl (rd (gl s 1) (0 + r214.toNat)) 0)), (V.inl Zc (gl (rd (gl s 1) (0 + r214.toNat)) 1)), (V.int .i64 (gi (rd (gl s 1) (0 + r214.toNat)) 2)), (V.int .i64 0)])) (0 + r214.toNat)) 0)), (V.inl Zc (gl (rd ((gl s 1).set (0 + r214.toNat) (V.agg [(V.inl Zc (gl (rd (gl s 1) (0 + r214.toNat)) 0)), (V.inl Zc (gl (rd (gl s 1) (0 + r214.toNat)) 1)), (V.int .i64 (gi (rd (gl s 1) (0 + r214.toNat)) 2)), (V.int .i64 0)])) (0 + r214.toNat)) 1)), (V.int .i64 (gi s 0)), (V.int .i64 (gi (rd ((gl s 1).set (0 + r214.toNat) (V.agg [(V.inl Zc (gl (rd (gl s 1) (0 + r214.toNat)) 0)), (V.inl Zc (gl (rd (gl s 1) (0 + r214.toNat)) 1)), (V.int .i64 (gi (rd (gl s 1) (0 + r214.toNat)) 2)), (V.int .i64 0)])) (0 + r214.toNat)) 3))]))), (V.inl Zf (gl s 2)), (V.int .i64 (gi s 3)), (V.inl Zd (gl s 4)), (V.inl Ze (gl s 5))]))
          else none
        else none
      else none
    else some (0, (Za s))
  else bif (decide ((gi o 0) = 1)) then
    Option.bind (Zaq (Za s) (gl o 1) (gl o 2)) fun r234 =>
    bif (!r234.1) then
      some (4, (Za r234.2))
    else some (0, (Za r234.2))
  else bif (decide ((gi o 0) = 2)) then
    bif (!(decide ((0 : Int) = (gi o 3)))) then
      some (3, (Za s))
    else Option.bind (Zaq (Za s) (gl o 1) (gl o 2)) fun r235 =>
    bif (!r235.1) then
      some (4, (Za r235.2))
    else some (0, (Za r235.2))
  else bif (decide ((gi o 0) = 3)) then
    some (1, (Za s))
  else bif (decide ((gi o 0) = 4)) then
    bif (decide ((8 : Int) ≤ (((gl s 4).length : Nat) : Int))) then
      some (4, (Za s))
    else bif ((Zw (0 + ((gl s 4).length)) 16) && true) then
      bif ((Zw (((gl s 4).length) + 1) 16) && true) then
        some (0, (V.agg [(V.int .i64 (gi s 0)), (V.inl Zg (gl s 1)), (V.inl Zf (gl s 2)), (V.int .i64 (gi s 3)), (V.inl Zd ((gl s 4) ++ [(V.agg [(V.int .i64 (gi s 0)), (V.bool (decide ((gi o 3) = 1)))])])), (V.inl Ze (gl s 5))]))
      else none
    else none
  else bif (decide ((gi o 0) = 5)) then
    Option.bind (ZbF (Za s) (gi o 3)) fun r236 =>
    bif (decide (r236 < 0)) then
      some (1, (Za s))
    else Option.bind (Zdb (Za s) r236) fun r237 =>
    some (0, (Za r237))
  else bif (decide ((gi o 0) = 6)) then
    Option.bind (ZbF (Za s) (gi o 3)) fun r238 =>
    bif (decide (r238 < 0)) then
      some (1, (Za s))
    else Option.bind (Zaq (Za s) (gl o 1) (gl o 2)) fun r239 =>
    bif (!r239.1) then
      some (4, (Za r239.2))
    else Option.bind (Zbb (Za r239.2) (gl o 1)) fun r240 =>
    bif (Zm r240 ((gl r239.2 1).length)) then
      some (0, (V.agg [(V.int .i64 (gi r239.2 0)), (V.inl Zg ((gl r239.2 1).set (0 + r240.toNat) (V.agg [(V.inl Zc (gl (rd (gl r239.2 1) (0 + r240.toNat)) 0)), (V.inl Zc (gl (rd (gl r239.2 1) (0 + r240.toNat)) 1)), (V.int .i64 (gi (rd (gl r239.2 1) (0 + r240.toNat)) 2)), (V.int .i64 (gi o 3))]))), (V.inl Zf (gl r239.2 2)), (V.int .i64 (gi r239.2 3)), (V.inl Zd (gl r239.2 4)), (V.inl Ze (gl r239.2 5))]))
    else none
  else bif (decide ((gi o 0) = 7)) then
    some (1, (Za s))
  else some (0, (Za s))
def Zaj : Nat → Int → V → V → V → V → List V → List V → List V → List V → Option (Int × V × V × V × V × List V × List V × List V × List V)
  | 0, _, _, _, _, _, _, _, _, _ => none
  | k_ + 1, k6, b0, b1, b2, b3, r4, r5, r6, r7 =>
    bif (decide (k6 < ((r7.length : Nat) : Int))) then
      bif (Zm k6 r7.length) then
        bif (decide ((gi (rd r7 (0 + k6.toNat)) 0) < (gi b1 0))) then
          Zaj k_ (IntKind.i64.wrap (k6 + 1)) (V.agg [(V.int .i64 (gi b0 0)), (V.sl 4 Zg 0 none), (V.sl 5 Zf 0 none), (V.int .i64 (gi b0 3)), (V.sl 6 Zd 0 none), (V.sl 7 Ze 0 none)]) (Zn b1) (ZA b2) (ZA b3) r4 r5 r6 r7
        else some (k6, (V.agg [(V.int .i64 (gi b0 0)), (V.sl 4 Zg 0 none), (V.sl 5 Zf 0 none), (V.int .i64 (gi b0 3)), (V.sl 6 Zd 0 none), (V.sl 7 Ze 0 none)]), (Zn b1), (ZA b2), (ZA b3), r4, r5, r6, r7)
      else none
    else some (k6, (V.agg [(V.int .i64 (gi b0 0)), (V.sl 4 Zg 0 none), (V.sl 5 Zf 0 none), (V.int .i64 (gi b0 3)), (V.sl 6 Zd 0 none), (V.sl 7 Ze 0 none)]), (Zn b1), (ZA b2), (ZA b3), r4, r5, r6, r7)
def ZJ (s : V) (c : V) : Option (V × V) :=
  bif (decide ((gi c 0) < 0)) then
    some ((V.agg [(V.int .i64 0), (V.int .i64 (IntKind.i64.wrap ((gi s 0) + 1)))]), (V.agg [(V.int .i64 (IntKind.i64.wrap ((gi s 0) + 1))), (V.inl Zg (gl s 1)), (V.inl Zf (gl s 2)), (V.int .i64 (gi s 3)), (V.inl Zd (gl s 4)), (V.inl Ze (gl s 5))]))
  else Option.bind (Zaj (((((gl s 5).length : Nat) : Int) - 0).toNat + 1) 0 (V.agg [(V.int .i64 (IntKind.i64.wrap ((gi s 0) + 1))), (V.sl 4 Zg 0 none), (V.sl 5 Zf 0 none), (V.int .i64 (gi s 3)), (V.sl 6 Zd 0 none), (V.sl 7 Ze 0 none)]) (Zn c) (V.agg [(V.int .i64 0), (V.int .i64 0)]) (V.agg [(V.int .i64 0), (V.int .i64 (IntKind.i64.wrap ((gi s 0) + 1)))]) (gl s 1) (gl s 2) (gl s 4) (gl s 5)) fun r213 =>
  bif (decide (r213.1 < ((r213.2.2.2.2.2.2.2.2.length : Nat) : Int))) then
    bif (Zm r213.1 r213.2.2.2.2.2.2.2.2.length) then
      bif (decide ((gi (rd r213.2.2.2.2.2.2.2.2 (0 + r213.1.toNat)) 0) = (gi r213.2.2.1 0))) then
        bif (Zm r213.1 r213.2.2.2.2.2.2.2.2.length) then
          bif (decide ((gi (rd r213.2.2.2.2.2.2.2.2 (0 + r213.1.toNat)) 1) = (gi r213.2.2.1 1))) then
            bif (Zm r213.1 r213.2.2.2.2.2.2.2.2.length) then
              some ((V.agg [(V.int .i64 (gi (rd r213.2.2.2.2.2.2.2.2 (0 + r213.1.toNat)) 2)), (V.int .i64 (gi (rd r213.2.2.2.2.2.2.2.2 (0 + r213.1.toNat)) 3))]), (V.agg [(V.int .i64 (gi r213.2.1 0)), (V.inl Zg r213.2.2.2.2.2.1), (V.inl Zf r213.2.2.2.2.2.2.1), (V.int .i64 (gi r213.2.1 3)), (V.inl Zd r213.2.2.2.2.2.2.2.1), (V.inl Ze r213.2.2.2.2.2.2.2.2)]))
            else none
          else bif (Zm r213.1 r213.2.2.2.2.2.2.2.2.length) then
            bif (decide ((gi r213.2.2.1 1) < (gi (rd r213.2.2.2.2.2.2.2.2 (0 + r213.1.toNat)) 1))) then
              some ((V.agg [(V.int .i64 5), (V.int .i64 (gi r213.2.2.2.2.1 1))]), (V.agg [(V.int .i64 (gi r213.2.1 0)), (V.inl Zg r213.2.2.2.2.2.1), (V.inl Zf r213.2.2.2.2.2.2.1), (V.int .i64 (gi r213.2.1 3)), (V.inl Zd r213.2.2.2.2.2.2.2.1), (V.inl Ze r213.2.2.2.2.2.2.2.2)]))
            else Option.bind (Zbj (V.agg [(V.int .i64 (gi r213.2.1 0)), (V.inl Zg r213.2.2.2.2.2.1), (V.inl Zf r213.2.2.2.2.2.2.1), (V.int .i64 (gi r213.2.1 3)), (V.inl Zd r213.2.2.2.2.2.2.2.1), (V.inl Ze r213.2.2.2.2.2.2.2.2)]) (V.agg [(V.int .i64 (gi r213.2.2.1 2)), (V.inl Zc (gl r213.2.2.1 3)), (V.inl Zc (gl r213.2.2.1 4)), (V.int .i64 (gi r213.2.2.1 5))])) fun r241 =>
            bif (Zm r213.1 ((gl r241.2 5).length)) then
              bif (Zm r213.1 (((gl r241.2 5).set (0 + r213.1.toNat) (V.agg [(V.int .i64 (gi (rd (gl r241.2 5) (0 + r213.1.toNat)) 0)), (V.int .i64 (gi r213.2.2.1 1)), (V.int .i64 (gi (rd (gl r241.2 5) (0 + r213.1.toNat)) 2)), (V.int .i64 (gi (rd (gl r241.2 5) (0 + r213.1.toNat)) 3))])).length)) then
                some ((V.agg [(V.int .i64 r241.1), (V.int .i64 (gi r213.2.2.2.2.1 1))]), (V.agg [(V.int .i64 (gi r241.2 0)), (V.inl Zg (gl r241.2 1)), (V.inl Zf (gl r241.2 2)), (V.int .i64 (gi r241.2 3)), (V.inl Zd (gl r241.2 4)), (V.inl Ze (((gl r241.2 5).set (0 + r213.1.toNat) (V.agg [(V.int .i64 (gi (rd (gl r241.2 5) (0 + r213.1.toNat)) 0)), (V.int .i64 (gi r213.2.2.1 1)), (V.int .i64 (gi (rd (gl r241.2 5) (0 + r213.1.toNat)) 2)), (V.int .i64 (gi (rd (gl r241.2 5) (0 + r213.1.toNat)) 3))])).set (0 + r213.1.toNat) (V.agg [(V.int .i64 (gi (rd ((gl r241.2 5).set (0 + r213.1.toNat) (V.agg [(V.int .i64 (gi (rd (gl r241.2 5) (0 + r213.1.toNat)) 0)), (V.int .i64 (gi r213.2.2.1 1)), (V.int .i64 (gi (rd (gl r241.2 5) (0 + r213.1.toNat)) 2)), (V.int .i64 (gi (rd (gl r241.2 5) (0 + r213.1.toNat)) 3))])) (0 + r213.1.toNat)) 0)), (V.int .i64 (gi (rd ((gl r241.2 5).set (0 + r213.1.toNat) (V.agg [(V.int .i64 (gi (rd (gl r241.2 5) (0 + r213.1.toNat)) 0)), (V.int .i64 (gi r213.2.2.1 1)), (V.int .i64 (gi (rd (gl r241.2 5) (0 + r213.1.toNat)) 2)), (V.int .i64 (gi (rd (gl r241.2 5) (0 + r213.1.toNat)) 3))])) (0 + r213.1.toNat)) 1)), (V.int .i64 r241.1), (V.int .i64 (gi r213.2.2.2.2.1 1))])))]))
              else none
            else none
          else none
        else none
      else Option.bind (Zbj (V.agg [(V.int .i64 (gi r213.2.1 0)), (V.inl Zg r213.2.2.2.2.2.1), (V.inl Zf r213.2.2.2.2.2.2.1), (V.int .i64 (gi r213.2.1 3)), (V.inl Zd r213.2.2.2.2.2.2.2.1), (V.inl Ze r213.2.2.2.2.2.2.2.2)]) (V.agg [(V.int .i64 (gi r213.2.2.1 2)), (V.inl Zc (gl r213.2.2.1 3)), (V.inl Zc (gl r213.2.2.1 4)), (V.int .i64 (gi r213.2.2.1 5))])) fun r242 =>
      bif ((decide ((0 : Int) ≤ r213.1)) && (decide (r213.1 ≤ (((gl r242.2 5).length : Nat) : Int)))) then
        bif ((Zw (0 + (((gl r242.2 5).take r213.1.toNat).length)) 32) && true) then
          bif ((Zw ((((gl r242.2 5).take r213.1.toNat).length) + 1) 32) && true) then
            bif ((decide ((0 : Int) ≤ r213.1)) && (decide (r213.1 ≤ (((gl r242.2 5).length : Nat) : Int)))) then
              bif ((Zw (((((gl r242.2 5).take r213.1.toNat) ++ [(V.agg [(V.int .i64 (gi r213.2.2.1 0)), (V.int .i64 (gi r213.2.2.1 1)), (V.int .i64 r242.1), (V.int .i64 (gi r213.2.2.2.2.1 1))])]).length) + (((gl r242.2 5).drop (0 + r213.1.toNat)).length)) 32) && true) then
                some ((V.agg [(V.int .i64 r242.1), (V.int .i64 (gi r213.2.2.2.2.1 1))]), (V.agg [(V.int .i64 (gi r242.2 0)), (V.inl Zg (gl r242.2 1)), (V.inl Zf (gl r242.2 2)), (V.int .i64 (gi r242.2 3)), (V.inl Zd (gl r242.2 4)), (V.inl Ze ((((gl r242.2 5).take r213.1.toNat) ++ [(V.agg [(V.int .i64 (gi r213.2.2.1 0)), (V.int .i64 (gi r213.2.2.1 1)), (V.int .i64 r242.1), (V.int .i64 (gi r213.2.2.2.2.1 1))])]) ++ ((gl r242.2 5).drop (0 + r213.1.toNat))))]))
              else none
            else none
          else none
        else none
      else none
    else none
  else Option.bind (Zbj (V.agg [(V.int .i64 (gi r213.2.1 0)), (V.inl Zg r213.2.2.2.2.2.1), (V.inl Zf r213.2.2.2.2.2.2.1), (V.int .i64 (gi r213.2.1 3)), (V.inl Zd r213.2.2.2.2.2.2.2.1), (V.inl Ze r213.2.2.2.2.2.2.2.2)]) (V.agg [(V.int .i64 (gi r213.2.2.1 2)), (V.inl Zc (gl r213.2.2.1 3)), (V.inl Zc (gl r213.2.2.1 4)), (V.int .i64 (gi r213.2.2.1 5))])) fun r243 =>
  bif ((decide ((0 : Int) ≤ r213.1)) && (decide (r213.1 ≤ (((gl r243.2 5).length : Nat) : Int)))) then
    bif ((Zw (0 + (((gl r243.2 5).take r213.1.toNat).length)) 32) && true) then
      bif ((Zw ((((gl r243.2 5).take r213.1.toNat).length) + 1) 32) && true) then
        bif ((decide ((0 : Int) ≤ r213.1)) && (decide (r213.1 ≤ (((gl r243.2 5).length : Nat) : Int)))) then
          bif ((Zw (((((gl r243.2 5).take r213.1.toNat) ++ [(V.agg [(V.int .i64 (gi r213.2.2.1 0)), (V.int .i64 (gi r213.2.2.1 1)), (V.int .i64 r243.1), (V.int .i64 (gi r213.2.2.2.2.1 1))])]).length) + (((gl r243.2 5).drop (0 + r213.1.toNat)).length)) 32) && true) then
            some ((V.agg [(V.int .i64 r243.1), (V.int .i64 (gi r213.2.2.2.2.1 1))]), (V.agg [(V.int .i64 (gi r243.2 0)), (V.inl Zg (gl r243.2 1)), (V.inl Zf (gl r243.2 2)), (V.int .i64 (gi r243.2 3)), (V.inl Zd (gl r243.2 4)), (V.inl Ze ((((gl r243.2 5).take r213.1.toNat) ++ [(V.agg [(V.int .i64 (gi r213.2.2.1 0)), (V.int .i64 (gi r213.2.2.1 1)), (V.int .i64 r243.1), (V.int .i64 (gi r213.2.2.2.2.1 1))])]) ++ ((gl r243.2 5).drop (0 + r213.1.toNat))))]))
          else none
        else none
      else none
    else none
  else none
def ZE : Nat → Int → Int → V → V → V → List V → List V → List V → List V → List V → List V → List V → List V → Option (V × V × V × List V × List V × List V × List V × List V × List V × List V × List V)
  | 0, _, _, _, _, _, _, _, _, _, _, _, _, _ => none
  | k_ + 1, n4, i5, b0, b1, b2, r3, r4, r5, r6, r7, r8, r9, r10 =>
    bif (decide (i5 < n4)) then
      Option.bind (Zh (Zb b0) 3) fun r209 =>
      Option.bind (ZfY (Zb r209.2) (gi b2 0)) fun r210 =>
      bif (decide (i5 = 0)) then
        Option.bind (Zh (Zb r210.2) 2) fun r211 =>
        Option.bind (ZH (Zb r211.2) 9) fun r212 =>
        bif r212.1 then
          Option.bind (ZJ (V.agg [(V.int .i64 (gi b2 0)), (V.inl Zg r7), (V.inl Zf r8), (V.int .i64 (gi b2 3)), (V.inl Zd r9), (V.inl Ze r10)]) (V.agg [(V.int .i64 (-1)), (V.int .i64 0), (V.int .i64 0), (V.inl Zc []), (V.inl Zc []), (V.int .i64 0)])) fun r244 =>
          ZE k_ n4 (IntKind.i64.wrap (i5 + 1)) (Zb r212.2) (V.agg [(V.int .i64 (gi b1 0)), (V.sl 3 Zg 0 none), (V.sl 4 Zf 0 none), (V.int .i64 (gi b1 3)), (V.sl 5 Zd 0 none), (V.sl 6 Ze 0 none)]) (V.agg [(V.int .i64 (gi r244.2 0)), (V.sl 7 Zg 0 none), (V.sl 8 Zf 0 none), (V.int .i64 (gi r244.2 3)), (V.sl 9 Zd 0 none), (V.sl 10 Ze 0 none)]) r3 r4 r5 r6 (gl r244.2 1) (gl r244.2 2) (gl r244.2 4) (gl r244.2 5)
        else Option.bind (ZJ (V.agg [(V.int .i64 (gi b2 0)), (V.inl Zg r7), (V.inl Zf r8), (V.int .i64 (gi b2 3)), (V.inl Zd r9), (V.inl Ze r10)]) (V.agg [(V.int .i64 r209.1), (V.int .i64 (IntKind.i64.wrap (1 + i5))), (V.int .i64 4), (V.inl Zc []), (V.inl Zc []), (V.int .i64 r211.1)])) fun r245 =>
        ZE k_ n4 (IntKind.i64.wrap (i5 + 1)) (Zb r212.2) (V.agg [(V.int .i64 (gi b1 0)), (V.sl 3 Zg 0 none), (V.sl 4 Zf 0 none), (V.int .i64 (gi b1 3)), (V.sl 5 Zd 0 none), (V.sl 6 Ze 0 none)]) (V.agg [(V.int .i64 (gi r245.2 0)), (V.sl 7 Zg 0 none), (V.sl 8 Zf 0 none), (V.int .i64 (gi r245.2 3)), (V.sl 9 Zd 0 none), (V.sl 10 Ze 0 none)]) r3 r4 r5 r6 (gl r245.2 1) (gl r245.2 2) (gl r245.2 4) (gl r245.2 5)
      else bif (decide ((5 : Int) ≤ (gi r210.1 0))) then
        bif (decide ((0 : Int) < ((r9.length : Nat) : Int))) then
          Option.bind (ZH (Zb r210.2) 3) fun r246 =>
          bif (!r246.1) then
            Option.bind (Zh (Zb r246.2) ((r9.length : Nat) : Int)) fun r247 =>
            bif (Zm r247.1 r9.length) then
              Option.bind (ZH (Zb r247.2) 9) fun r248 =>
              bif r248.1 then
                Option.bind (ZJ (V.agg [(V.int .i64 (gi b2 0)), (V.inl Zg r7), (V.inl Zf r8), (V.int .i64 (gi b2 3)), (V.inl Zd r9), (V.inl Ze r10)]) (V.agg [(V.int .i64 (-1)), (V.int .i64 0), (V.int .i64 0), (V.inl Zc []), (V.inl Zc []), (V.int .i64 0)])) fun r249 =>
                ZE k_ n4 (IntKind.i64.wrap (i5 + 1)) (Zb r248.2) (V.agg [(V.int .i64 (gi b1 0)), (V.sl 3 Zg 0 none), (V.sl 4 Zf 0 none), (V.int .i64 (gi b1 3)), (V.sl 5 Zd 0 none), (V.sl 6 Ze 0 none)]) (V.agg [(V.int .i64 (gi r249.2 0)), (V.sl 7 Zg 0 none), (V.sl 8 Zf 0 none), (V.int .i64 (gi r249.2 3)), (V.sl 9 Zd 0 none), (V.sl 10 Ze 0 none)]) r3 r4 r5 r6 (gl r249.2 1) (gl r249.2 2) (gl r249.2 4) (gl r249.2 5)
              else Option.bind (ZJ (V.agg [(V.int .i64 (gi b2 0)), (V.inl Zg r7), (V.inl Zf r8), (V.int .i64 (gi b2 3)), (V.inl Zd r9), (V.inl Ze r10)]) (V.agg [(V.int .i64 r209.1), (V.int .i64 (IntKind.i64.wrap (1 + i5))), (V.int .i64 (gi r210.1 0)), (V.inl Zc (gl r210.1 1)), (V.inl Zc (gl r210.1 2)), (V.int .i64 (gi (rd r9 (0 + r247.1.toNat)) 0))])) fun r250 =>
              ZE k_ n4 (IntKind.i64.wrap (i5 + 1)) (Zb r248.2) (V.agg [(V.int .i64 (gi b1 0)), (V.sl 3 Zg 0 none), (V.sl 4 Zf 0 none), (V.int .i64 (gi b1 3)), (V.sl 5 Zd 0 none), (V.sl 6 Ze 0 none)]) (V.agg [(V.int .i64 (gi r250.2 0)), (V.sl 7 Zg 0 none), (V.sl 8 Zf 0 none), (V.int .i64 (gi r250.2 3)), (V.sl 9 Zd 0 none), (V.sl 10 Ze 0 none)]) r3 r4 r5 r6 (gl r250.2 1) (gl r250.2 2) (gl r250.2 4) (gl r250.2 5)
            else none
          else Option.bind (ZH (Zb r246.2) 9) fun r251 =>
          bif r251.1 then
            Option.bind (ZJ (V.agg [(V.int .i64 (gi b2 0)), (V.inl Zg r7), (V.inl Zf r8), (V.int .i64 (gi b2 3)), (V.inl Zd r9), (V.inl Ze r10)]) (V.agg [(V.int .i64 (-1)), (V.int .i64 0), (V.int .i64 0), (V.inl Zc []), (V.inl Zc []), (V.int .i64 0)])) fun r252 =>
            ZE k_ n4 (IntKind.i64.wrap (i5 + 1)) (Zb r251.2) (V.agg [(V.int .i64 (gi b1 0)), (V.sl 3 Zg 0 none), (V.sl 4 Zf 0 none), (V.int .i64 (gi b1 3)), (V.sl 5 Zd 0 none), (V.sl 6 Ze 0 none)]) (V.agg [(V.int .i64 (gi r252.2 0)), (V.sl 7 Zg 0 none), (V.sl 8 Zf 0 none), (V.int .i64 (gi r252.2 3)), (V.sl 9 Zd 0 none), (V.sl 10 Ze 0 none)]) r3 r4 r5 r6 (gl r252.2 1) (gl r252.2 2) (gl r252.2 4) (gl r252.2 5)
          else Option.bind (ZJ (V.agg [(V.int .i64 (gi b2 0)), (V.inl Zg r7), (V.inl Zf r8), (V.int .i64 (gi b2 3)), (V.inl Zd r9), (V.inl Ze r10)]) (V.agg [(V.int .i64 r209.1), (V.int .i64 (IntKind.i64.wrap (1 + i5))), (V.int .i64 (gi r210.1 0)), (V.inl Zc (gl r210.1 1)), (V.inl Zc (gl r210.1 2)), (V.int .i64 (gi r210.1 3))])) fun r253 =>
          ZE k_ n4 (IntKind.i64.wrap (i5 + 1)) (Zb r251.2) (V.agg [(V.int .i64 (gi b1 0)), (V.sl 3 Zg 0 none), (V.sl 4 Zf 0 none), (V.int .i64 (gi b1 3)), (V.sl 5 Zd 0 none), (V.sl 6 Ze 0 none)]) (V.agg [(V.int .i64 (gi r253.2 0)), (V.sl 7 Zg 0 none), (V.sl 8 Zf 0 none), (V.int .i64 (gi r253.2 3)), (V.sl 9 Zd 0 none), (V.sl 10 Ze 0 none)]) r3 r4 r5 r6 (gl r253.2 1) (gl r253.2 2) (gl r253.2 4) (gl r253.2 5)
        else Option.bind (ZH (Zb r210.2) 9) fun r254 =>
        bif r254.1 then
          Option.bind (ZJ (V.agg [(V.int .i64 (gi b2 0)), (V.inl Zg r7), (V.inl Zf r8), (V.int .i64 (gi b2 3)), (V.inl Zd r9), (V.inl Ze r10)]) (V.agg [(V.int .i64 (-1)), (V.int .i64 0), (V.int .i64 0), (V.inl Zc []), (V.inl Zc []), (V.int .i64 0)])) fun r255 =>
          ZE k_ n4 (IntKind.i64.wrap (i5 + 1)) (Zb r254.2) (V.agg [(V.int .i64 (gi b1 0)), (V.sl 3 Zg 0 none), (V.sl 4 Zf 0 none), (V.int .i64 (gi b1 3)), (V.sl 5 Zd 0 none), (V.sl 6 Ze 0 none)]) (V.agg [(V.int .i64 (gi r255.2 0)), (V.sl 7 Zg 0 none), (V.sl 8 Zf 0 none), (V.int .i64 (gi r255.2 3)), (V.sl 9 Zd 0 none), (V.sl 10 Ze 0 none)]) r3 r4 r5 r6 (gl r255.2 1) (gl r255.2 2) (gl r255.2 4) (gl r255.2 5)
        else Option.bind (ZJ (V.agg [(V.int .i64 (gi b2 0)), (V.inl Zg r7), (V.inl Zf r8), (V.int .i64 (gi b2 3)), (V.inl Zd r9), (V.inl Ze r10)]) (V.agg [(V.int .i64 r209.1), (V.int .i64 (IntKind.i64.wrap (1 + i5))), (V.int .i64 (gi r210.1 0)), (V.inl Zc (gl r210.1 1)), (V.inl Zc (gl r210.1 2)), (V.int .i64 (gi r210.1 3))])) fun r256 =>
        ZE k_ n4 (IntKind.i64.wrap (i5 + 1)) (Zb r254.2) (V.agg [(V.int .i64 (gi b1 0)), (V.sl 3 Zg 0 none), (V.sl 4 Zf 0 none), (V.int .i64 (gi b1 3)), (V.sl 5 Zd 0 none), (V.sl 6 Ze 0 none)]) (V.agg [(V.int .i64 (gi r256.2 0)), (V.sl 7 Zg 0 none), (V.sl 8 Zf 0 none), (V.int .i64 (gi r256.2 3)), (V.sl 9 Zd 0 none), (V.sl 10 Ze 0 none)]) r3 r4 r5 r6 (gl r256.2 1) (gl r256.2 2) (gl r256.2 4) (gl r256.2 5)
      else Option.bind (ZH (Zb r210.2) 9) fun r257 =>
      bif r257.1 then
        Option.bind (ZJ (V.agg [(V.int .i64 (gi b2 0)), (V.inl Zg r7), (V.inl Zf r8), (V.int .i64 (gi b2 3)), (V.inl Zd r9), (V.inl Ze r10)]) (V.agg [(V.int .i64 (-1)), (V.int .i64 0), (V.int .i64 0), (V.inl Zc []), (V.inl Zc []), (V.int .i64 0)])) fun r258 =>
        ZE k_ n4 (IntKind.i64.wrap (i5 + 1)) (Zb r257.2) (V.agg [(V.int .i64 (gi b1 0)), (V.sl 3 Zg 0 none), (V.sl 4 Zf 0 none), (V.int .i64 (gi b1 3)), (V.sl 5 Zd 0 none), (V.sl 6 Ze 0 none)]) (V.agg [(V.int .i64 (gi r258.2 0)), (V.sl 7 Zg 0 none), (V.sl 8 Zf 0 none), (V.int .i64 (gi r258.2 3)), (V.sl 9 Zd 0 none), (V.sl 10 Ze 0 none)]) r3 r4 r5 r6 (gl r258.2 1) (gl r258.2 2) (gl r258.2 4) (gl r258.2 5)
      else Option.bind (ZJ (V.agg [(V.int .i64 (gi b2 0)), (V.inl Zg r7), (V.inl Zf r8), (V.int .i64 (gi b2 3)), (V.inl Zd r9), (V.inl Ze r10)]) (V.agg [(V.int .i64 r209.1), (V.int .i64 (IntKind.i64.wrap (1 + i5))), (V.int .i64 (gi r210.1 0)), (V.inl Zc (gl r210.1 1)), (V.inl Zc (gl r210.1 2)), (V.int .i64 (gi r210.1 3))])) fun r259 =>
      ZE k_ n4 (IntKind.i64.wrap (i5 + 1)) (Zb r257.2) (V.agg [(V.int .i64 (gi b1 0)), (V.sl 3 Zg 0 none), (V.sl 4 Zf 0 none), (V.int .i64 (gi b1 3)), (V.sl 5 Zd 0 none), (V.sl 6 Ze 0 none)]) (V.agg [(V.int .i64 (gi r259.2 0)), (V.sl 7 Zg 0 none), (V.sl 8 Zf 0 none), (V.int .i64 (gi r259.2 3)), (V.sl 9 Zd 0 none), (V.sl 10 Ze 0 none)]) r3 r4 r5 r6 (gl r259.2 1) (gl r259.2 2) (gl r259.2 4) (gl r259.2 5)
    else some ((Zb b0), (V.agg [(V.int .i64 (gi b1 0)), (V.sl 3 Zg 0 none), (V.sl 4 Zf 0 none), (V.int .i64 (gi b1 3)), (V.sl 5 Zd 0 none), (V.sl 6 Ze 0 none)]), (V.agg [(V.int .i64 (gi b2 0)), (V.sl 7 Zg 0 none), (V.sl 8 Zf 0 none), (V.int .i64 (gi b2 3)), (V.sl 9 Zd 0 none), (V.sl 10 Ze 0 none)]), r3, r4, r5, r6, r7, r8, r9, r10)
def Zfj (c : V) : Option (V × V) :=
  Option.bind (Zh (Zb c) 20) fun r208 =>
  Option.bind (ZE ((r208.1 - 0).toNat + 1) r208.1 0 (Zb r208.2) (V.agg [(V.int .i64 0), (V.sl 3 Zg 0 none), (V.sl 4 Zf 0 none), (V.int .i64 0), (V.sl 5 Zd 0 none), (V.sl 6 Ze 0 none)]) (V.agg [(V.int .i64 0), (V.sl 7 Zg 0 none), (V.sl 8 Zf 0 none), (V.int .i64 0), (V.sl 9 Zd 0 none), (V.sl 10 Ze 0 none)]) [] [] [] [] [] [] [] []) fun r260 =>
  some ((V.agg [(V.int .i64 (gi r260.2.2.1 0)), (V.inl Zg r260.2.2.2.2.2.2.2.1), (V.inl Zf r260.2.2.2.2.2.2.2.2.1), (V.int .i64 (gi r260.2.2.1 3)), (V.inl Zd r260.2.2.2.2.2.2.2.2.2.1), (V.inl Ze r260.2.2.2.2.2.2.2.2.2.2)]), (Zb r260.1))
def Zev (c : V) : Option (V × V) :=
  Option.bind (Zfj (Zb c)) fun r261 =>
  Option.bind (ZH (Zb r261.2) 6) fun r262 =>
  bif (!r262.1) then
    some ((Za r261.1), (Zb r262.2))
  else Option.bind (Zh (Zb r262.2) 8) fun r263 =>
  bif (decide (r263.1 = 0)) then
    Option.bind (ZN (Zb r263.2) [(V.int .i64 (-1)), (V.int .i64 0), (V.int .i64 1000000), (V.int .i64 1000001)]) fun r264 =>
    some ((V.agg [(V.int .i64 r264.1), (V.inl Zg (gl r261.1 1)), (V.inl Zf (gl r261.1 2)), (V.int .i64 (gi r261.1 3)), (V.inl Zd (gl r261.1 4)), (V.inl Ze (gl r261.1 5))]), (Zb r264.2))
  else bif (decide (r263.1 = 1)) then
    bif (decide ((0 : Int) < (((gl r261.1 1).length : Nat) : Int))) then
      Option.bind (Zh (Zb r263.2) 9) fun r265 =>
      bif (Zm 0 ((gl r261.1 1).length)) then
        some ((V.agg [(V.int .i64 (gi r261.1 0)), (V.inl Zg ((gl r261.1 1).set 0 (V.agg [(V.inl Zc (gl (rd (gl r261.1 1) 0) 0)), (V.inl Zc (gl (rd (gl r261.1 1) 0) 1)), (V.int .i64 (gi (rd (gl r261.1 1) 0) 2)), (V.int .i64 r265.1)]))), (V.inl Zf (gl r261.1 2)), (V.int .i64 (gi r261.1 3)), (V.inl Zd (gl r261.1 4)), (V.inl Ze (gl r261.1 5))]), (Zb r265.2))
      else none
    else some ((Za r261.1), (Zb r263.2))
  else bif (decide (r263.1 = 2)) then
    bif (decide ((0 : Int) < (((gl r261.1 1).length : Nat) : Int))) then
      Option.bind (ZN (Zb r263.2) [(V.int .i64 0), (V.int .i64 1), (V.int .i64 999)]) fun r266 =>
      bif (Zm 0 ((gl r261.1 1).length)) then
        some ((V.agg [(V.int .i64 (gi r261.1 0)), (V.inl Zg ((gl r261.1 1).set 0 (V.agg [(V.inl Zc (gl (rd (gl r261.1 1) 0) 0)), (V.inl Zc (gl (rd (gl r261.1 1) 0) 1)), (V.int .i64 r266.1), (V.int .i64 (gi (rd (gl r261.1 1) 0) 3))]))), (V.inl Zf (gl r261.1 2)), (V.int .i64 (gi r261.1 3)), (V.inl Zd (gl r261.1 4)), (V.inl Ze (gl r261.1 5))]), (Zb r266.2))
      else none
    else some ((Za r261.1), (Zb r263.2))
  else bif (decide (r263.1 = 3)) then
    Option.bind (ZaS (Zb r263.2)) fun r267 =>
    bif ((Zw (((gl r261.1 2).length) + 1) 32) && true) then
      some ((V.agg [(V.int .i64 (gi r261.1 0)), (V.inl Zg (gl r261.1 1)), (V.inl Zf ((gl r261.1 2) ++ [(V.agg [(V.inl Zc r267.1), (V.int .i64 (gi r261.1 0))])])), (V.int .i64 (gi r261.1 3)), (V.inl Zd (gl r261.1 4)), (V.inl Ze (gl r261.1 5))]), (Zb r267.2))
    else none
  else bif (decide (r263.1 = 4)) then
    Option.bind (ZN (Zb r263.2) [(V.int .i64 (-1)), (V.int .i64 1), (V.int .i64 5)]) fun r268 =>
    some ((V.agg [(V.int .i64 (gi r261.1 0)), (V.inl Zg (gl r261.1 1)), (V.inl Zf (gl r261.1 2)), (V.int .i64 r268.1), (V.inl Zd (gl r261.1 4)), (V.inl Ze (gl r261.1 5))]), (Zb r268.2))
  else bif (decide (r263.1 = 5)) then
    Option.bind (Zh (Zb r263.2) 9) fun r269 =>
    bif ((Zw (((gl r261.1 4).length) + 1) 16) && true) then
      some ((V.agg [(V.int .i64 (gi r261.1 0)), (V.inl Zg (gl r261.1 1)), (V.inl Zf (gl r261.1 2)), (V.int .i64 (gi r261.1 3)), (V.inl Zd ((gl r261.1 4) ++ [(V.agg [(V.int .i64 r269.1), (V.bool false)])])), (V.inl Ze (gl r261.1 5))]), (Zb r269.2))
    else none
  else bif (decide (r263.1 = 6)) then
    Option.bind (Zh (Zb r263.2) 6) fun r270 =>
    bif ((Zw (((gl r261.1 5).length) + 1) 32) && true) then
      some ((V.agg [(V.int .i64 (gi r261.1 0)), (V.inl Zg (gl r261.1 1)), (V.inl Zf (gl r261.1 2)), (V.int .i64 (gi r261.1 3)), (V.inl Zd (gl r261.1 4)), (V.inl Ze ((gl r261.1 5) ++ [(V.agg [(V.int .i64 (IntKind.i64.wrap (r270.1 - 1))), (V.int .i64 1), (V.int .i64 0), (V.int .i64 1)])]))]), (Zb r270.2))
    else none
  else bif (decide ((0 : Int) < (((gl r261.1 1).length : Nat) : Int))) then
    Option.bind (Zh (Zb r263.2) 3) fun r271 =>
    bif (Zm r271.1 3) then
      bif (Zm 0 ((gl r261.1 1).length)) then
        some ((V.agg [(V.int .i64 (gi r261.1 0)), (V.inl Zg ((gl r261.1 1).set 0 (V.agg [(V.inl Zc (gs (rd [(V.str []), (V.str [(V.int .u8 65)]), (V.str [(V.int .u8 122), (V.int .u8 122)])] (0 + r271.1.toNat)) 0)), (V.inl Zc (gl (rd (gl r261.1 1) 0) 1)), (V.int .i64 (gi (rd (gl r261.1 1) 0) 2)), (V.int .i64 (gi (rd (gl r261.1 1) 0) 3))]))), (V.inl Zf (gl r261.1 2)), (V.int .i64 (gi r261.1 3)), (V.inl Zd (gl r261.1 4)), (V.inl Ze (gl r261.1 5))]), (Zb r271.2))
      else none
    else none
  else some ((Za r261.1), (Zb r263.2))
def ZeE (c : V) : Option (V × V) :=
  Option.bind (ZfY (Zb c) 6) fun r275 =>
  Option.bind (ZH (Zb r275.2) 6) fun r276 =>
  bif r276.1 then
    Option.bind (Zh (Zb r276.2) 4) fun r277 =>
    bif (decide (r277.1 = 0)) then
      Option.bind (ZN (Zb r277.2) [(V.int .i64 (-1)), (V.int .i64 8), (V.int .i64 0), (V.int .i64 2)]) fun r278 =>
      some ((V.agg [(V.int .i64 r278.1), (V.inl Zc (gl r275.1 1)), (V.inl Zc (gl r275.1 2)), (V.int .i64 (gi r275.1 3))]), (Zb r278.2))
    else bif (decide (r277.1 = 1)) then
      bif ((Zw (((gl r275.1 1).length) + 1) 1) && true) then
        some ((V.agg [(V.int .i64 (gi r275.1 0)), (V.inl Zc ((gl r275.1 1) ++ [(V.int .u8 65)])), (V.inl Zc (gl r275.1 2)), (V.int .i64 (gi r275.1 3))]), (Zb r277.2))
      else none
    else bif (decide (r277.1 = 2)) then
      Option.bind (Zh (Zb r277.2) 2) fun r279 =>
      bif (((decide ((0 : Int) ≤ (IntKind.i64.wrap (20 + r279.1)))) && decide ((IntKind.i64.wrap (20 + r279.1)) = (IntKind.i64.wrap (20 + r279.1)))) && (Zw ((IntKind.i64.wrap (20 + r279.1)).toNat) 1)) then
        some ((V.agg [(V.int .i64 (gi r275.1 0)), (V.inl Zc (gl r275.1 1)), (V.inl Zc (List.replicate ((IntKind.i64.wrap (20 + r279.1)).toNat) (V.int .u8 0))), (V.int .i64 (gi r275.1 3))]), (Zb r279.2))
      else none
    else Option.bind (ZN (Zb r277.2) [(V.int .i64 (-1)), (V.int .i64 0), (V.int .i64 1), (V.int .i64 2), (V.int .i64 1000000), (V.int .i64 1000001)]) fun r280 =>
    some ((V.agg [(V.int .i64 (gi r275.1 0)), (V.inl Zc (gl r275.1 1)), (V.inl Zc (gl r275.1 2)), (V.int .i64 r280.1)]), (Zb r280.2))
  else some ((ZpW r275.1), (Zb r276.2))
def Zel (c : V) : Option (V × V) :=
  Option.bind (Zh (Zb c) 4) fun r273 =>
  Option.bind (Zh (Zb r273.2) 25) fun r274 =>
  Option.bind (ZeE (Zb r274.2)) fun r281 =>
  Option.bind (ZH (Zb r281.2) 8) fun r282 =>
  bif r282.1 then
    Option.bind (ZH (Zb r282.2) 10) fun r283 =>
    bif r283.1 then
      Option.bind (ZN (Zb r283.2) [(V.int .i64 (-1)), (V.int .i64 0), (V.int .i64 1), (V.int .i64 1000000), (V.int .i64 1000001)]) fun r284 =>
      Option.bind (ZH (Zb r284.2) 20) fun r285 =>
      bif r285.1 then
        Option.bind (ZN (Zb r285.2) [(V.int .i64 (-2)), (V.int .i64 (-1)), (V.int .i64 3), (V.int .i64 4)]) fun r286 =>
        some ((V.agg [(V.int .i64 r286.1), (V.int .i64 r284.1), (V.int .i64 0), (V.inl Zc []), (V.inl Zc []), (V.int .i64 0)]), (Zb r286.2))
      else some ((V.agg [(V.int .i64 (-1)), (V.int .i64 r284.1), (V.int .i64 0), (V.inl Zc []), (V.inl Zc []), (V.int .i64 0)]), (Zb r285.2))
    else Option.bind (ZH (Zb r283.2) 20) fun r287 =>
    bif r287.1 then
      Option.bind (ZN (Zb r287.2) [(V.int .i64 (-2)), (V.int .i64 (-1)), (V.int .i64 3), (V.int .i64 4)]) fun r288 =>
      some ((V.agg [(V.int .i64 r288.1), (V.int .i64 0), (V.int .i64 0), (V.inl Zc []), (V.inl Zc []), (V.int .i64 0)]), (Zb r288.2))
    else some ((V.agg [(V.int .i64 (-1)), (V.int .i64 0), (V.int .i64 0), (V.inl Zc []), (V.inl Zc []), (V.int .i64 0)]), (Zb r287.2))
  else Option.bind (ZH (Zb r282.2) 10) fun r289 =>
  bif r289.1 then
    Option.bind (ZN (Zb r289.2) [(V.int .i64 (-1)), (V.int .i64 0), (V.int .i64 1), (V.int .i64 1000000), (V.int .i64 1000001)]) fun r290 =>
    Option.bind (ZH (Zb r290.2) 20) fun r291 =>
    bif r291.1 then
      Option.bind (ZN (Zb r291.2) [(V.int .i64 (-2)), (V.int .i64 (-1)), (V.int .i64 3), (V.int .i64 4)]) fun r292 =>
      some ((V.agg [(V.int .i64 r292.1), (V.int .i64 r290.1), (V.int .i64 (gi r281.1 0)), (V.inl Zc (gl r281.1 1)), (V.inl Zc (gl r281.1 2)), (V.int .i64 (gi r281.1 3))]), (Zb r292.2))
    else some ((V.agg [(V.int .i64 r273.1), (V.int .i64 r290.1), (V.int .i64 (gi r281.1 0)), (V.inl Zc (gl r281.1 1)), (V.inl Zc (gl r281.1 2)), (V.int .i64 (gi r281.1 3))]), (Zb r291.2))
  else Option.bind (ZH (Zb r289.2) 20) fun r293 =>
  bif r293.1 then
    Option.bind (ZN (Zb r293.2) [(V.int .i64 (-2)), (V.int .i64 (-1)), (V.int .i64 3), (V.int .i64 4)]) fun r294 =>
    some ((V.agg [(V.int .i64 r294.1), (V.int .i64 (IntKind.i64.wrap (1 + r274.1))), (V.int .i64 (gi r281.1 0)), (V.inl Zc (gl r281.1 1)), (V.inl Zc (gl r281.1 2)), (V.int .i64 (gi r281.1 3))]), (Zb r294.2))
  else some ((V.agg [(V.int .i64 r273.1), (V.int .i64 (IntKind.i64.wrap (1 + r274.1))), (V.int .i64 (gi r281.1 0)), (V.inl Zc (gl r281.1 1)), (V.inl Zc (gl r281.1 2)), (V.int .i64 (gi r281.1 3))]), (Zb r293.2))
def Zbm (code : List V) : Option (V × V) :=
  Option.bind (Zek code) fun r2 =>
  Option.bind (Zev (Zb r2)) fun r272 =>
  Option.bind (Zel (Zb r272.2)) fun r295 =>
  bif (decide ((0 : Int) < (((gl r272.1 4).length : Nat) : Int))) then
    bif (decide ((5 : Int) ≤ (gi r295.1 2))) then
      Option.bind (ZH (Zb r295.2) 2) fun r296 =>
      bif r296.1 then
        Option.bind (Zh (Zb r296.2) (((gl r272.1 4).length : Nat) : Int)) fun r297 =>
        bif (Zm r297.1 ((gl r272.1 4).length)) then
          Option.bind (ZH (Zb r297.2) 2) fun r298 =>
          bif r298.1 then
            some ((Za r272.1), (V.agg [(V.int .i64 (gi r295.1 0)), (V.int .i64 (IntKind.i64.wrap ((gi r295.1 1) + 20))), (V.int .i64 (gi r295.1 2)), (V.inl Zc (gl r295.1 3)), (V.inl Zc (gl r295.1 4)), (V.int .i64 (gi (rd (gl r272.1 4) (0 + r297.1.toNat)) 0))]))
          else some ((Za r272.1), (V.agg [(V.int .i64 (gi r295.1 0)), (V.int .i64 (gi r295.1 1)), (V.int .i64 (gi r295.1 2)), (V.inl Zc (gl r295.1 3)), (V.inl Zc (gl r295.1 4)), (V.int .i64 (gi (rd (gl r272.1 4) (0 + r297.1.toNat)) 0))]))
        else none
      else Option.bind (ZH (Zb r296.2) 2) fun r299 =>
      bif r299.1 then
        some ((Za r272.1), (V.agg [(V.int .i64 (gi r295.1 0)), (V.int .i64 (IntKind.i64.wrap ((gi r295.1 1) + 20))), (V.int .i64 (gi r295.1 2)), (V.inl Zc (gl r295.1 3)), (V.inl Zc (gl r295.1 4)), (V.int .i64 (gi r295.1 5))]))
      else some ((Za r272.1), (Zn r295.1))
    else Option.bind (ZH (Zb r295.2) 2) fun r300 =>
    bif r300.1 then
      some ((Za r272.1), (V.agg [(V.int .i64 (gi r295.1 0)), (V.int .i64 (IntKind.i64.wrap ((gi r295.1 1) + 20))), (V.int .i64 (gi r295.1 2)), (V.inl Zc (gl r295.1 3)), (V.inl Zc (gl r295.1 4)), (V.int .i64 (gi r295.1 5))]))
    else some ((Za r272.1), (Zn r295.1))
  else Option.bind (ZH (Zb r295.2) 2) fun r301 =>
  bif r301.1 then
    some ((Za r272.1), (V.agg [(V.int .i64 (gi r295.1 0)), (V.int .i64 (IntKind.i64.wrap ((gi r295.1 1) + 20))), (V.int .i64 (gi r295.1 2)), (V.inl Zc (gl r295.1 3)), (V.inl Zc (gl r295.1 4)), (V.int .i64 (gi r295.1 5))]))
  else some ((Za r272.1), (Zn r295.1))
def ZQ (n : Int) (low : Int) (high : Int) : Bool :=
  bif (decide (low ≤ n)) then
    (decide (n ≤ high))
  else false
def Zbu : Nat → List V → List V → Int → Int → Option (Nat × List V × Bool)
  | 0, _, _, _, _ => none
  | k_ + 1, b0, v5, v6, v7 =>
    bif (decide (v7 < v6)) then
      bif (Zm v7 v5.length) then
        bif (decide ((gi (rd v5 v7.toNat) 0) < 97)) then
          bif (!(decide ((gi (rd v5 v7.toNat) 0) = 47))) then
            some (0, b0, false)
          else Zbu k_ b0 v5 v6 (IntKind.i64.wrap (v7 + 1))
        else bif (decide ((122 : Int) < (gi (rd v5 v7.toNat) 0))) then
          bif (!(decide ((gi (rd v5 v7.toNat) 0) = 47))) then
            some (0, b0, false)
          else Zbu k_ b0 v5 v6 (IntKind.i64.wrap (v7 + 1))
        else Zbu k_ b0 v5 v6 (IntKind.i64.wrap (v7 + 1))
      else none
    else some (1, b0, false)
def ZbI (b : List V) : Option (Bool) :=
  Option.bind (Zbu ((((b.length : Nat) : Int) - 0).toNat + 1) b b ((b.length : Nat) : Int) 0) fun r303 =>
  bif (Nat.beq r303.1 0) then
    some r303.2.2
  else some (ZQ ((r303.2.1.length : Nat) : Int) 1 20)
def Zcw (b : List V) : Bool :=
  (decide (((b.length : Nat) : Int) ≤ 20))
def Zfk (x : V) (a1 : V) : Bool :=
  (decide ((gi x 0) = (gi a1 0)))
def Zad : Nat → List V → V → Int → Int → Option (Nat × Int)
  | 0, _, _, _, _ => none
  | k_ + 1, s0, f1_0, v7, v8 =>
    bif (decide (v8 < v7)) then
      bif (Zm v8 s0.length) then
        bif Zfk (ZD (rd s0 v8.toNat)) (V.agg [(V.int .i64 (gi f1_0 0))]) then
          some (0, v8)
        else Zad k_ s0 (V.agg [(V.int .i64 (gi f1_0 0))]) v7 (IntKind.i64.wrap (v8 + 1))
      else none
    else some (1, 0)
def Zcx (s : List V) (f_0 : V) : Option (Int) :=
  Option.bind (Zad ((((s.length : Nat) : Int) - 0).toNat + 1) s (V.agg [(V.int .i64 (gi f_0 0))]) ((s.length : Nat) : Int) 0) fun r305 =>
  bif (Nat.beq r305.1 0) then
    some r305.2
  else some (-1)
def Zbk (s : V) (id : Int) : Option (Int) :=
  Option.bind (Zcx (gl s 4) (V.agg [(V.int .i64 id)])) fun r306 =>
  some r306
def Zdr (r : V) (key : List V) : Int :=
  (ZgD (gl r 0) key)
def ZO : Nat → List V → List V → Int → Int → Int → Option (List V × List V × Int × Int)
  | 0, _, _, _, _, _ => none
  | k_ + 1, x0, target1, n8, i9, j10 =>
    bif (decide (i9 < j10)) then
      bif (Zm (IntKind.i64.wrap (ZeQ .u64 (IntKind.u64.wrap (IntKind.i64.wrap (i9 + j10))) 1)) x0.length) then
        bif (decide ((Zdr (ZhX (rd x0 ((IntKind.i64.wrap (ZeQ .u64 (IntKind.u64.wrap (IntKind.i64.wrap (i9 + j10))) 1)).toNat))) target1) < 0)) then
          ZO k_ x0 target1 n8 (IntKind.i64.wrap ((IntKind.i64.wrap (ZeQ .u64 (IntKind.u64.wrap (IntKind.i64.wrap (i9 + j10))) 1)) + 1)) j10
        else ZO k_ x0 target1 n8 i9 (IntKind.i64.wrap (ZeQ .u64 (IntKind.u64.wrap (IntKind.i64.wrap (i9 + j10))) 1))
      else none
    else some (x0, target1, n8, i9)
def Zbn (x : List V) (target : List V) : Option (Int × Bool) :=
  Option.bind (ZO ((((x.length : Nat) : Int) - 0).toNat + 1) x target ((x.length : Nat) : Int) 0 ((x.length : Nat) : Int)) fun r309 =>
  bif (decide (r309.2.2.2 < r309.2.2.1)) then
    bif (Zm r309.2.2.2 r309.1.length) then
      some (r309.2.2.2, (decide ((Zdr (ZhX (rd r309.1 r309.2.2.2.toNat)) r309.2.1) = 0)))
    else none
  else some (r309.2.2.2, false)
def Zbz (s : V) (key : List V) : Option (Int × Bool) :=
  Option.bind (Zbn (gl s 1) key) fun r310 =>
  some (r310.1, r310.2)
def Zew (a : List V) (b : List V) : Bool :=
  (Zbx (a.map Zay) (b.map Zay))
def Zga (t : V) (a1 : V) : Bool :=
  (Zew (gl t 0) (gl a1 0))
def Zas : Nat → List V → V → Int → Int → Option (Nat × Int)
  | 0, _, _, _, _ => none
  | k_ + 1, s0, f1_0, v7, v8 =>
    bif (decide (v8 < v7)) then
      bif (Zm v8 s0.length) then
        bif Zga (Zn5 (rd s0 v8.toNat)) (V.agg [(V.inl Zc (gl f1_0 0))]) then
          some (0, v8)
        else Zas k_ s0 (V.agg [(V.inl Zc (gl f1_0 0))]) v7 (IntKind.i64.wrap (v8 + 1))
      else none
    else some (1, 0)
def Zdc (s : List V) (f_0 : V) : Option (Int) :=
  Option.bind (Zas ((((s.length : Nat) : Int) - 0).toNat + 1) s (V.agg [(V.inl Zc (gl f_0 0))]) ((s.length : Nat) : Int) 0) fun r313 =>
  bif (Nat.beq r313.1 0) then
    some r313.2
  else some (-1)
def ZbJ (s : V) (key : List V) : Option (Int) :=
  Option.bind (Zdc (gl s 2) (V.agg [(V.inl Zc key)])) fun r314 =>
  some r314
def ZaG : Nat → List V → Int → Int → V → Option (Nat × Bool × V)
  | 0, _, _, _, _ => none
  | k_ + 1, v51, v52, v53, b0 =>
    bif (decide (v53 < v52)) then
      bif (Zm v53 v51.length) then
        Option.bind (ZbI (gl (rd v51 v53.toNat) 0)) fun r304 =>
        bif (!r304) then
          some (0, false, (Za b0))
        else bif (!(Zcw (gl (rd v51 v53.toNat) 1))) then
          some (0, false, (Za b0))
        else bif (!(ZQ (gi (rd v51 v53.toNat) 2) 1 (gi b0 0))) then
          some (0, false, (Za b0))
        else bif (!(decide ((gi (rd v51 v53.toNat) 3) = 0))) then
          Option.bind (Zbk (Za b0) (gi (rd v51 v53.toNat) 3)) fun r307 =>
          bif (decide (r307 < 0)) then
            some (0, false, (Za b0))
          else bif (decide ((0 : Int) < v53)) then
            bif (Zm (IntKind.i64.wrap (v53 - 1)) ((gl b0 1).length)) then
              bif (decide ((0 : Int) ≤ (ZgD (gl (rd (gl b0 1) ((IntKind.i64.wrap (v53 - 1)).toNat)) 0) (gl (rd v51 v53.toNat) 0)))) then
                some (0, false, (Za b0))
              else ZaG k_ v51 v52 (IntKind.i64.wrap (v53 + 1)) (Za b0)
            else none
          else ZaG k_ v51 v52 (IntKind.i64.wrap (v53 + 1)) (Za b0)
        else bif (decide ((0 : Int) < v53)) then
          bif (Zm (IntKind.i64.wrap (v53 - 1)) ((gl b0 1).length)) then
            bif (decide ((0 : Int) ≤ (ZgD (gl (rd (gl b0 1) ((IntKind.i64.wrap (v53 - 1)).toNat)) 0) (gl (rd v51 v53.toNat) 0)))) then
              some (0, false, (Za b0))
            else ZaG k_ v51 v52 (IntKind.i64.wrap (v53 + 1)) (Za b0)
          else none
        else ZaG k_ v51 v52 (IntKind.i64.wrap (v53 + 1)) (Za b0)
      else none
    else some (1, false, (Za b0))
def ZaY : Nat → Int → List V → Int → Int → V → Option (Nat × Bool × V)
  | 0, _, _, _, _, _ => none
  | k_ + 1, before5, v110, v111, v112, b0 =>
    bif (decide (v112 < v111)) then
      bif (Zm v112 v110.length) then
        Option.bind (Zbz (Za b0) (gl (rd v110 v112.toNat) 0)) fun r311 =>
        bif r311.2 then
          some (0, false, (Za b0))
        else Option.bind (ZbI (gl (rd v110 v112.toNat) 0)) fun r312 =>
        bif (!r312) then
          some (0, false, (Za b0))
        else Option.bind (ZbJ (Za b0) (gl (rd v110 v112.toNat) 0)) fun r315 =>
        bif (!(decide (r315 = v112))) then
          some (0, false, (Za b0))
        else bif (!(ZQ (gi (rd v110 v112.toNat) 1) before5 (gi b0 0))) then
          some (0, false, (Za b0))
        else ZaY k_ (gi (rd v110 v112.toNat) 1) v110 v111 (IntKind.i64.wrap (v112 + 1)) (Za b0)
      else none
    else some (1, false, (Za b0))
def ZaZ : Nat → List V → Int → Int → V → Option (Nat × Bool × V)
  | 0, _, _, _, _ => none
  | k_ + 1, v152, v153, v154, b0 =>
    bif (decide (v154 < v153)) then
      bif (Zm v154 v152.length) then
        bif (!(ZQ (gi (rd v152 v154.toNat) 0) 1 (gi b0 0))) then
          some (0, false, (Za b0))
        else bif (decide ((0 : Int) < v154)) then
          bif (Zm (IntKind.i64.wrap (v154 - 1)) ((gl b0 4).length)) then
            bif (decide ((gi (rd v152 v154.toNat) 0) ≤ (gi (rd (gl b0 4) ((IntKind.i64.wrap (v154 - 1)).toNat)) 0))) then
              some (0, false, (Za b0))
            else ZaZ k_ v152 v153 (IntKind.i64.wrap (v154 + 1)) (Za b0)
          else none
        else ZaZ k_ v152 v153 (IntKind.i64.wrap (v154 + 1)) (Za b0)
      else none
    else some (1, false, (Za b0))
def Za0 : Nat → List V → Int → Int → V → Option (Nat × Bool)
  | 0, _, _, _, _ => none
  | k_ + 1, v183, v184, v185, b0 =>
    bif (decide (v185 < v184)) then
      bif (Zm v185 v183.length) then
        bif (!(ZQ (gi (rd v183 v185.toNat) 0) 0 3)) then
          some (0, false)
        else bif (!(ZQ (gi (rd v183 v185.toNat) 1) 1 1000000)) then
          some (0, false)
        else bif (!(ZQ (gi (rd v183 v185.toNat) 2) 0 5)) then
          some (0, false)
        else bif (!(ZQ (gi (rd v183 v185.toNat) 3) 1 (gi b0 0))) then
          some (0, false)
        else bif (decide ((0 : Int) < v185)) then
          bif (Zm (IntKind.i64.wrap (v185 - 1)) ((gl b0 5).length)) then
            bif (decide ((gi (rd v183 v185.toNat) 0) ≤ (gi (rd (gl b0 5) ((IntKind.i64.wrap (v185 - 1)).toNat)) 0))) then
              some (0, false)
            else Za0 k_ v183 v184 (IntKind.i64.wrap (v185 + 1)) (Za b0)
          else none
        else Za0 k_ v183 v184 (IntKind.i64.wrap (v185 + 1)) (Za b0)
      else none
    else some (1, false)
def Zd6 (s : V) : Option (Bool) :=
  bif (!(ZQ (gi s 0) 0 1000000)) then
    some false
  else bif (!(ZQ (gi s 3) 0 (gi s 0))) then
    some false
  else bif (decide ((20 : Int) < (((gl s 1).length : Nat) : Int))) then
    some false
  else bif (decide ((10 : Int) < (((gl s 2).length : Nat) : Int))) then
    some false
  else bif (decide ((8 : Int) < (((gl s 4).length : Nat) : Int))) then
    some false
  else bif (decide ((4 : Int) < (((gl s 5).length : Nat) : Int))) then
    some false
  else Option.bind (ZaG (((((gl s 1).length : Nat) : Int) - 0).toNat + 1) (gl s 1) (((gl s 1).length : Nat) : Int) 0 (Za s)) fun r308 =>
  bif (Nat.beq r308.1 0) then
    some r308.2.1
  else Option.bind (ZaY (((((gl r308.2.2 2).length : Nat) : Int) - 0).toNat + 1) (mxI 1 (gi r308.2.2 3)) (gl r308.2.2 2) (((gl r308.2.2 2).length : Nat) : Int) 0 (Za r308.2.2)) fun r316 =>
  bif (Nat.beq r316.1 0) then
    some r316.2.1
  else Option.bind (ZaZ (((((gl r316.2.2 4).length : Nat) : Int) - 0).toNat + 1) (gl r316.2.2 4) (((gl r316.2.2 4).length : Nat) : Int) 0 (Za r316.2.2)) fun r317 =>
  bif (Nat.beq r317.1 0) then
    some r317.2.1
  else Option.bind (Za0 (((((gl r317.2.2 5).length : Nat) : Int) - 0).toNat + 1) (gl r317.2.2 5) (((gl r317.2.2 5).length : Nat) : Int) 0 (Za r317.2.2)) fun r318 =>
  bif (Nat.beq r318.1 0) then
    some r318.2
  else some true
def ZgV : V :=
  (V.agg [(V.int .i64 (-1)), (V.int .i64 0), (V.int .i64 0), (V.inl Zc []), (V.inl Zc []), (V.int .i64 0)])
def ZgF (o : V) (p : V) : Bool :=
  bif (decide ((gi o 0) = (gi p 0))) then
    bif Zew (gl o 1) (gl p 1) then
      bif Zew (gl o 2) (gl p 2) then
        (decide ((gi o 3) = (gi p 3)))
      else false
    else false
  else false
def ZeF (c : V) (d : V) : Bool :=
  bif (decide ((gi c 0) = (gi d 0))) then
    bif (decide ((gi c 1) = (gi d 1))) then
      (ZgF (V.agg [(V.int .i64 (gi c 2)), (V.inl Zc (gl c 3)), (V.inl Zc (gl c 4)), (V.int .i64 (gi c 5))]) (V.agg [(V.int .i64 (gi d 2)), (V.inl Zc (gl d 3)), (V.inl Zc (gl d 4)), (V.int .i64 (gi d 5))]))
    else false
  else false
def ZgW (o : V) : Option (Bool) :=
  bif (decide ((gi o 0) = 0)) then
    bif ZQ (gi o 3) 0 0 then
      bif (decide ((((gl o 1).length : Nat) : Int) = 0)) then
        some (decide ((((gl o 2).length : Nat) : Int) = 0))
      else some false
    else some false
  else bif (decide ((gi o 0) = 1)) then
    bif ZQ (gi o 3) 0 0 then
      Option.bind (ZbI (gl o 1)) fun r320 =>
      bif r320 then
        bif Zcw (gl o 2) then
          some true
        else some false
      else some false
    else some false
  else bif (decide ((gi o 0) = 2)) then
    bif ZQ (gi o 3) 0 1000000 then
      Option.bind (ZbI (gl o 1)) fun r321 =>
      bif r321 then
        bif Zcw (gl o 2) then
          some true
        else some false
      else some false
    else some false
  else bif (decide ((gi o 0) = 3)) then
    bif ZQ (gi o 3) 0 0 then
      Option.bind (ZbI (gl o 1)) fun r322 =>
      bif r322 then
        some (decide ((((gl o 2).length : Nat) : Int) = 0))
      else some false
    else some false
  else bif (decide ((gi o 0) = 4)) then
    bif ZQ (gi o 3) 0 1 then
      bif (decide ((((gl o 1).length : Nat) : Int) = 0)) then
        some (decide ((((gl o 2).length : Nat) : Int) = 0))
      else some false
    else some false
  else bif (decide ((gi o 0) = 5)) then
    bif ZQ (gi o 3) 1 1000000 then
      bif (decide ((((gl o 1).length : Nat) : Int) = 0)) then
        some (decide ((((gl o 2).length : Nat) : Int) = 0))
      else some false
    else some false
  else bif (decide ((gi o 0) = 6)) then
    bif ZQ (gi o 3) 1 1000000 then
      Option.bind (ZbI (gl o 1)) fun r323 =>
      bif r323 then
        bif Zcw (gl o 2) then
          some true
        else some false
      else some false
    else some false
  else bif (decide ((gi o 0) = 7)) then
    bif ZQ (gi o 3) 1 1000000 then
      Option.bind (ZbI (gl o 1)) fun r324 =>
      bif r324 then
        some (decide ((((gl o 2).length : Nat) : Int) = 0))
      else some false
    else some false
  else some false
def Zem (c : V) : Option (Bool) :=
  bif ZeF (Zn c) (Zn ZgV) then
    some true
  else bif ZQ (gi c 0) 0 3 then
    bif ZQ (gi c 1) 1 1000000 then
      Option.bind (ZgW (V.agg [(V.int .i64 (gi c 2)), (V.inl Zc (gl c 3)), (V.inl Zc (gl c 4)), (V.int .i64 (gi c 5))])) fun r325 =>
      some r325
    else some false
  else some false
def Zcy (s : List V) : Option (List V) :=
  bif ((Zw (0 + s.length) 64) && true) then
    some s
  else none
def Zcd (s : List V) : Option (List V) :=
  bif ((Zw (0 + s.length) 32) && true) then
    some s
  else none
def ZbK (s : List V) : Option (List V) :=
  bif ((Zw (0 + s.length) 16) && true) then
    some s
  else none
def Zce (s : List V) : Option (List V) :=
  bif ((Zw (0 + s.length) 32) && true) then
    some s
  else none
def Zaa (s : List V) : Option (List V) :=
  bif ((Zw (0 + s.length) 1) && true) then
    some s
  else none
def Za9 : Nat → Int → Int → V → V → List V → List V → List V → List V → List V → List V → List V → List V → Option (V × V × List V × List V × List V × List V × List V × List V × List V × List V)
  | 0, _, _, _, _, _, _, _, _, _, _, _, _ => none
  | k_ + 1, v25, v26, b0, b1, r2, r3, r4, r5, r6, r7, r8, r9 =>
    bif (decide (v26 < v25)) then
      bif (Zm v26 r2.length) then
        Option.bind (Zaa (gl (rd r2 (0 + v26.toNat)) 0)) fun r335 =>
        Option.bind (Zaa (gl (rd r2 (0 + v26.toNat)) 1)) fun r336 =>
        bif (Zm v26 r2.length) then
          bif (Zm v26 ((r2.set (0 + v26.toNat) (V.agg [(V.inl Zc r335), (V.inl Zc (gl (rd r2 (0 + v26.toNat)) 1)), (V.int .i64 (gi (rd r2 (0 + v26.toNat)) 2)), (V.int .i64 (gi (rd r2 (0 + v26.toNat)) 3))])).length)) then
            Za9 k_ v25 (IntKind.i64.wrap (v26 + 1)) (V.agg [(V.int .i64 (gi b0 0)), (V.sl 2 Zg 0 none), (V.sl 3 Zf 0 none), (V.int .i64 (gi b0 3)), (V.sl 4 Zd 0 none), (V.sl 5 Ze 0 none)]) (V.agg [(V.int .i64 (gi b1 0)), (V.sl 6 Zg 0 none), (V.sl 7 Zf 0 none), (V.int .i64 (gi b1 3)), (V.sl 8 Zd 0 none), (V.sl 9 Ze 0 none)]) ((r2.set (0 + v26.toNat) (V.agg [(V.inl Zc r335), (V.inl Zc (gl (rd r2 (0 + v26.toNat)) 1)), (V.int .i64 (gi (rd r2 (0 + v26.toNat)) 2)), (V.int .i64 (gi (rd r2 (0 + v26.toNat)) 3))])).set (0 + v26.toNat) (V.agg [(V.inl Zc (gl (rd (r2.set (0 + v26.toNat) (V.agg [(V.inl Zc r335), (V.inl Zc (gl (rd r2 (0 + v26.toNat)) 1)), (V.int .i64 (gi (rd r2 (0 + v26.toNat)) 2)), (V.int .i64 (gi (rd r2 (0 + v26.toNat)) 3))])) (0 + v26.toNat)) 0)), (V.inl Zc r336), (V.int .i64 (gi (rd (r2.set (0 + v26.toNat) (V.agg [(V.inl Zc r335), (V.inl Zc (gl (rd r2 (0 + v26.toNat)) 1)), (V.int .i64 (gi (rd r2 (0 + v26.toNat)) 2)), (V.int .i64 (gi (rd r2 (0 + v26.toNat)) 3))])) (0 + v26.toNat)) 2)), (V.int .i64 (gi (rd (r2.set (0 + v26.toNat) (V.agg [(V.inl Zc r335), (V.inl Zc (gl (rd r2 (0 + v26.toNat)) 1)), (V.int .i64 (gi (rd r2 (0 + v26.toNat)) 2)), (V.int .i64 (gi (rd r2 (0 + v26.toNat)) 3))])) (0 + v26.toNat)) 3))])) r3 r4 r5 r6 r7 r8 r9
          else none
        else none
      else none
    else some ((V.agg [(V.int .i64 (gi b0 0)), (V.sl 2 Zg 0 none), (V.sl 3 Zf 0 none), (V.int .i64 (gi b0 3)), (V.sl 4 Zd 0 none), (V.sl 5 Ze 0 none)]), (V.agg [(V.int .i64 (gi b1 0)), (V.sl 6 Zg 0 none), (V.sl 7 Zf 0 none), (V.int .i64 (gi b1 3)), (V.sl 8 Zd 0 none), (V.sl 9 Ze 0 none)]), r2, r3, r4, r5, r6, r7, r8, r9)
def Zba : Nat → Int → Int → V → V → List V → List V → List V → List V → List V → List V → List V → List V → Option (V × V × List V × List V × List V × List V × List V × List V × List V × List V)
  | 0, _, _, _, _, _, _, _, _, _, _, _, _ => none
  | k_ + 1, v50, v51, b0, b1, r2, r3, r4, r5, r6, r7, r8, r9 =>
    bif (decide (v51 < v50)) then
      bif (Zm v51 r2.length) then
        Option.bind (Zaa (gl (rd r2 (0 + v51.toNat)) 0)) fun r338 =>
        bif (Zm v51 r2.length) then
          Zba k_ v50 (IntKind.i64.wrap (v51 + 1)) (V.agg [(V.int .i64 (gi b0 0)), (V.sl 3 Zg 0 none), (V.sl 2 Zf 0 none), (V.int .i64 (gi b0 3)), (V.sl 4 Zd 0 none), (V.sl 5 Ze 0 none)]) (V.agg [(V.int .i64 (gi b1 0)), (V.sl 6 Zg 0 none), (V.sl 7 Zf 0 none), (V.int .i64 (gi b1 3)), (V.sl 8 Zd 0 none), (V.sl 9 Ze 0 none)]) (r2.set (0 + v51.toNat) (V.agg [(V.inl Zc r338), (V.int .i64 (gi (rd r2 (0 + v51.toNat)) 1))])) r3 r4 r5 r6 r7 r8 r9
        else none
      else none
    else some ((V.agg [(V.int .i64 (gi b0 0)), (V.sl 2 Zg 0 none), (V.sl 3 Zf 0 none), (V.int .i64 (gi b0 3)), (V.sl 4 Zd 0 none), (V.sl 5 Ze 0 none)]), (V.agg [(V.int .i64 (gi b1 0)), (V.sl 6 Zg 0 none), (V.sl 7 Zf 0 none), (V.int .i64 (gi b1 3)), (V.sl 8 Zd 0 none), (V.sl 9 Ze 0 none)]), r3, r2, r4, r5, r6, r7, r8, r9)
def Zcp (s : V) : Option (V) :=
  Option.bind (Zcy (gl s 1)) fun r331 =>
  Option.bind (Zcd (gl s 2)) fun r332 =>
  Option.bind (ZbK (gl s 4)) fun r333 =>
  Option.bind (Zce (gl s 5)) fun r334 =>
  Option.bind (Za9 ((((r331.length : Nat) : Int) - 0).toNat + 1) ((r331.length : Nat) : Int) 0 (V.agg [(V.int .i64 (gi s 0)), (V.sl 2 Zg 0 none), (V.sl 3 Zf 0 none), (V.int .i64 (gi s 3)), (V.sl 4 Zd 0 none), (V.sl 5 Ze 0 none)]) (V.agg [(V.int .i64 0), (V.sl 6 Zg 0 none), (V.sl 7 Zf 0 none), (V.int .i64 0), (V.sl 8 Zd 0 none), (V.sl 9 Ze 0 none)]) r331 r332 r333 r334 [] [] [] []) fun r337 =>
  Option.bind (Zba ((((r337.2.2.2.1.length : Nat) : Int) - 0).toNat + 1) ((r337.2.2.2.1.length : Nat) : Int) 0 (V.agg [(V.int .i64 (gi r337.1 0)), (V.sl 3 Zg 0 none), (V.sl 2 Zf 0 none), (V.int .i64 (gi r337.1 3)), (V.sl 4 Zd 0 none), (V.sl 5 Ze 0 none)]) (V.agg [(V.int .i64 (gi r337.2.1 0)), (V.sl 6 Zg 0 none), (V.sl 7 Zf 0 none), (V.int .i64 (gi r337.2.1 3)), (V.sl 8 Zd 0 none), (V.sl 9 Ze 0 none)]) r337.2.2.2.1 r337.2.2.1 r337.2.2.2.2.1 r337.2.2.2.2.2.1 r337.2.2.2.2.2.2.1 r337.2.2.2.2.2.2.2.1 r337.2.2.2.2.2.2.2.2.1 r337.2.2.2.2.2.2.2.2.2) fun r339 =>
  some (V.agg [(V.int .i64 (gi r339.1 0)), (V.inl Zg r339.2.2.1), (V.inl Zf r339.2.2.2.1), (V.int .i64 (gi r339.1 3)), (V.inl Zd r339.2.2.2.2.1), (V.inl Ze r339.2.2.2.2.2.1)])
def Zcf (l : V) (client : Int) : Int :=
  (IntKind.i64.wrap ((gi l 0) - client))
def ZT : Nat → List V → Int → Int → Int → Int → Option (List V × Int × Int × Int)
  | 0, _, _, _, _, _ => none
  | k_ + 1, x0, target1, n8, i9, j10 =>
    bif (decide (i9 < j10)) then
      bif (Zm (IntKind.i64.wrap (ZeQ .u64 (IntKind.u64.wrap (IntKind.i64.wrap (i9 + j10))) 1)) x0.length) then
        bif (decide ((Zcf (ZfP (rd x0 ((IntKind.i64.wrap (ZeQ .u64 (IntKind.u64.wrap (IntKind.i64.wrap (i9 + j10))) 1)).toNat))) target1) < 0)) then
          ZT k_ x0 target1 n8 (IntKind.i64.wrap ((IntKind.i64.wrap (ZeQ .u64 (IntKind.u64.wrap (IntKind.i64.wrap (i9 + j10))) 1)) + 1)) j10
        else ZT k_ x0 target1 n8 i9 (IntKind.i64.wrap (ZeQ .u64 (IntKind.u64.wrap (IntKind.i64.wrap (i9 + j10))) 1))
      else none
    else some (x0, target1, n8, i9)
def ZaX (x : List V) (target : Int) : Option (Int × Bool) :=
  Option.bind (ZT ((((x.length : Nat) : Int) - 0).toNat + 1) x target ((x.length : Nat) : Int) 0 ((x.length : Nat) : Int)) fun r341 =>
  bif (decide (r341.2.2.2 < r341.2.2.1)) then
    bif (Zm r341.2.2.2 r341.1.length) then
      some (r341.2.2.2, (decide ((Zcf (ZfP (rd r341.1 r341.2.2.2.toNat)) r341.2.1) = 0)))
    else none
  else some (r341.2.2.2, false)
def ZdU (s : V) (client : Int) : Option (Int × Bool) :=
  Option.bind (ZaX (gl s 5) client) fun r342 =>
  some (r342.1, r342.2)
def Z4 (s : V) (key : List V) (val : List V) : Option (Bool × V) :=
  Option.bind (Zbz (Za s) key) fun r345 =>
  bif (!r345.2) then
    bif (decide ((((gl s 1).length : Nat) : Int) = 20)) then
      some (false, (Za s))
    else Option.bind (Zaa key) fun r346 =>
    Option.bind (Zfh 64 (gl s 1) r345.1 [(V.agg [(V.inl Zc r346), (V.inl Zc []), (V.int .i64 0), (V.int .i64 0)])]) fun r347 =>
    Option.bind (ZbJ (V.agg [(V.int .i64 (gi s 0)), (V.inl Zg r347), (V.inl Zf (gl s 2)), (V.int .i64 (gi s 3)), (V.inl Zd (gl s 4)), (V.inl Ze (gl s 5))]) key) fun r348 =>
    bif (decide ((0 : Int) ≤ r348)) then
      Option.bind (ZfC (gl s 2) r348 (IntKind.i64.wrap (r348 + 1))) fun r349 =>
      Option.bind (Zaa val) fun r350 =>
      bif (Zm r345.1 r347.length) then
        bif (Zm r345.1 ((r347.set (0 + r345.1.toNat) (V.agg [(V.inl Zc (gl (rd r347 (0 + r345.1.toNat)) 0)), (V.inl Zc r350), (V.int .i64 (gi (rd r347 (0 + r345.1.toNat)) 2)), (V.int .i64 (gi (rd r347 (0 + r345.1.toNat)) 3))])).length)) then
          some (true, (V.agg [(V.int .i64 (gi s 0)), (V.inl Zg ((r347.set (0 + r345.1.toNat) (V.agg [(V.inl Zc (gl (rd r347 (0 + r345.1.toNat)) 0)), (V.inl Zc r350), (V.int .i64 (gi (rd r347 (0 + r345.1.toNat)) 2)), (V.int .i64 (gi (rd r347 (0 + r345.1.toNat)) 3))])).set (0 + r345.1.toNat) (V.agg [(V.inl Zc (gl (rd (r347.set (0 + r345.1.toNat) (V.agg [(V.inl Zc (gl (rd r347 (0 + r345.1.toNat)) 0)), (V.inl Zc r350), (V.int .i64 (gi (rd r347 (0 + r345.1.toNat)) 2)), (V.int .i64 (gi (rd r347 (0 + r345.1.toNat)) 3))])) (0 + r345.1.toNat)) 0)), (V.inl Zc (gl (rd (r347.set (0 + r345.1.toNat) (V.agg [(V.inl Zc (gl (rd r347 (0 + r345.1.toNat)) 0)), (V.inl Zc r350), (V.int .i64 (gi (rd r347 (0 + r345.1.toNat)) 2)), (V.int .i64 (gi (rd r347 (0 + r345.1.toNat)) 3))])) (0 + r345.1.toNat)) 1)), (V.int .i64 (gi s 0)), (V.int .i64 (gi (rd (r347.set (0 + r345.1.toNat) (V.agg [(V.inl Zc (gl (rd r347 (0 + r345.1.toNat)) 0)), (V.inl Zc r350), (V.int .i64 (gi (rd r347 (0 + r345.1.toNat)) 2)), (V.int .i64 (gi (rd r347 (0 + r345.1.toNat)) 3))])) (0 + r345.1.toNat)) 3))]))), (V.inl Zf r349), (V.int .i64 (gi s 3)), (V.inl Zd (gl s 4)), (V.inl Ze (gl s 5))]))
        else none
      else none
    else Option.bind (Zaa val) fun r351 =>
    bif (Zm r345.1 r347.length) then
      bif (Zm r345.1 ((r347.set (0 + r345.1.toNat) (V.agg [(V.inl Zc (gl (rd r347 (0 + r345.1.toNat)) 0)), (V.inl Zc r351), (V.int .i64 (gi (rd r347 (0 + r345.1.toNat)) 2)), (V.int .i64 (gi (rd r347 (0 + r345.1.toNat)) 3))])).length)) then
        some (true, (V.agg [(V.int .i64 (gi s 0)), (V.inl Zg ((r347.set (0 + r345.1.toNat) (V.agg [(V.inl Zc (gl (rd r347 (0 + r345.1.toNat)) 0)), (V.inl Zc r351), (V.int .i64 (gi (rd r347 (0 + r345.1.toNat)) 2)), (V.int .i64 (gi (rd r347 (0 + r345.1.toNat)) 3))])).set (0 + r345.1.toNat) (V.agg [(V.inl Zc (gl (rd (r347.set (0 + r345.1.toNat) (V.agg [(V.inl Zc (gl (rd r347 (0 + r345.1.toNat)) 0)), (V.inl Zc r351), (V.int .i64 (gi (rd r347 (0 + r345.1.toNat)) 2)), (V.int .i64 (gi (rd r347 (0 + r345.1.toNat)) 3))])) (0 + r345.1.toNat)) 0)), (V.inl Zc (gl (rd (r347.set (0 + r345.1.toNat) (V.agg [(V.inl Zc (gl (rd r347 (0 + r345.1.toNat)) 0)), (V.inl Zc r351), (V.int .i64 (gi (rd r347 (0 + r345.1.toNat)) 2)), (V.int .i64 (gi (rd r347 (0 + r345.1.toNat)) 3))])) (0 + r345.1.toNat)) 1)), (V.int .i64 (gi s 0)), (V.int .i64 (gi (rd (r347.set (0 + r345.1.toNat) (V.agg [(V.inl Zc (gl (rd r347 (0 + r345.1.toNat)) 0)), (V.inl Zc r351), (V.int .i64 (gi (rd r347 (0 + r345.1.toNat)) 2)), (V.int .i64 (gi (rd r347 (0 + r345.1.toNat)) 3))])) (0 + r345.1.toNat)) 3))]))), (V.inl Zf (gl s 2)), (V.int .i64 (gi s 3)), (V.inl Zd (gl s 4)), (V.inl Ze (gl s 5))]))
      else none
    else none
  else Option.bind (Zaa val) fun r352 =>
  bif (Zm r345.1 ((gl s 1).length)) then
    bif (Zm r345.1 (((gl s 1).set (0 + r345.1.toNat) (V.agg [(V.inl Zc (gl (rd (gl s 1) (0 + r345.1.toNat)) 0)), (V.inl Zc r352), (V.int .i64 (gi (rd (gl s 1) (0 + r345.1.toNat)) 2)), (V.int .i64 (gi (rd (gl s 1) (0 + r345.1.toNat)) 3))])).length)) then
      some (true, (V.agg [(V.int .i64 (gi s 0)), (V.inl Zg (((gl s 1).set (0 + r345.1.toNat) (V.agg [(V.inl Zc (gl (rd (gl s 1) (0 + r345.1.toNat)) 0)), (V.inl Zc r352), (V.int .i64 (gi (rd (gl s 1) (0 + r345.1.toNat)) 2)), (V.int .i64 (gi (rd (gl s 1) (0 + r345.1.toNat)) 3))])).set (0 + r345.1.toNat) (V.agg [(V.inl Zc (gl (rd ((gl s 1).set (0 + r345.1.toNat) (V.agg [(V.inl Zc (gl (rd (gl s 1) (0 + r345.1.toNat)) 0)), (V.inl Zc r352), (V.int .i64 (gi (rd (gl s 1) (0 + r345.1.toNat)) 2)), (V.int .i64 (gi (rd (gl s 1) (0 + r345.1.toNat)) 3))])) (0 + r345.1.toNat)) 0)), (V.inl Zc (gl (rd ((gl s 1).set (0 + r345.1.toNat) (V.agg [(V.inl Zc (gl (rd (gl s 1) (0 + r345.1.toNat)) 0)), (V.inl Zc r352), (V.int .i64 (gi (rd (gl s 1) (0 + r345.1.toNat)) 2)), (V.int .i64 (gi (rd (gl s 1) (0 + r345.1.toNat)) 3))])) (0 + r345.1.toNat)) 1)), (V.int .i64 (gi s 0)), (V.int .i64 (gi (rd ((gl s 1).set (0 + r345.1.toNat) (V.agg [(V.inl Zc (gl (rd (gl s 1) (0 + r345.1.toNat)) 0)), (V.inl Zc r352), (V.int .i64 (gi (rd (gl s 1) (0 + r345.1.toNat)) 2)), (V.int .i64 (gi (rd (gl s 1) (0 + r345.1.toNat)) 3))])) (0 + r345.1.toNat)) 3))]))), (V.inl Zf (gl s 2)), (V.int .i64 (gi s 3)), (V.inl Zd (gl s 4)), (V.inl Ze (gl s 5))]))
    else none
  else none
def Zai : Nat → V → List V → List V → List V → List V → Option (V × List V × List V × List V × List V)
  | 0, _, _, _, _, _ => none
  | k_ + 1, b0, r1, r2, r3, r4 =>
    bif (decide ((10 : Int) < ((r2.length : Nat) : Int))) then
      bif (Zm 0 r2.length) then
        Option.bind (ZfC r2 0 1) fun r362 =>
        Zai k_ (V.agg [(V.int .i64 (gi b0 0)), (V.sl 1 Zg 0 none), (V.sl 2 Zf 0 none), (V.int .i64 (gi (rd r2 0) 1)), (V.sl 3 Zd 0 none), (V.sl 4 Ze 0 none)]) r1 r362 r3 r4
      else none
    else some ((V.agg [(V.int .i64 (gi b0 0)), (V.sl 1 Zg 0 none), (V.sl 2 Zf 0 none), (V.int .i64 (gi b0 3)), (V.sl 3 Zd 0 none), (V.sl 4 Ze 0 none)]), r1, r2, r3, r4)
def Zcg (s : V) (k : Int) : Option (V) :=
  bif (Zm k ((gl s 1).length)) then
    bif ((Zw (((gl s 2).length) + 1) 32) && true) then
      Option.bind (ZfC (gl s 1) k (IntKind.i64.wrap (k + 1))) fun r361 =>
      Option.bind (Zai ((((((gl s 2) ++ [(V.agg [(V.inl Zc (gl (rd (gl s 1) (0 + k.toNat)) 0)), (V.int .i64 (gi s 0))])]).length : Nat) : Int) - 10).toNat + 1) (V.agg [(V.int .i64 (gi s 0)), (V.sl 1 Zg 0 none), (V.sl 2 Zf 0 none), (V.int .i64 (gi s 3)), (V.sl 3 Zd 0 none), (V.sl 4 Ze 0 none)]) r361 ((gl s 2) ++ [(V.agg [(V.inl Zc (gl (rd (gl s 1) (0 + k.toNat)) 0)), (V.int .i64 (gi s 0))])]) (gl s 4) (gl s 5)) fun r363 =>
      some (V.agg [(V.int .i64 (gi r363.1 0)), (V.inl Zg r363.2.1), (V.inl Zf r363.2.2.1), (V.int .i64 (gi r363.1 3)), (V.inl Zd r363.2.2.2.1), (V.inl Ze r363.2.2.2.2)])
    else none
  else none
def Zak : Nat → Int → Bool → Int → V → List V → List V → List V → List V → Option (V × List V × List V × List V × List V)
  | 0, _, _, _, _, _, _, _, _ => none
  | k_ + 1, id1, remove6, k7, b0, r1, r2, r3, r4 =>
    bif (decide (k7 < ((r1.length : Nat) : Int))) then
      bif (Zm k7 r1.length) then
        bif (!(decide ((gi (rd r1 (0 + k7.toNat)) 3) = id1))) then
          Zak k_ id1 remove6 (IntKind.i64.wrap (k7 + 1)) (V.agg [(V.int .i64 (gi b0 0)), (V.sl 1 Zg 0 none), (V.sl 2 Zf 0 none), (V.int .i64 (gi b0 3)), (V.sl 3 Zd 0 none), (V.sl 4 Ze 0 none)]) r1 r2 r3 r4
        else bif remove6 then
          Option.bind (Zcg (V.agg [(V.int .i64 (gi b0 0)), (V.inl Zg r1), (V.inl Zf r2), (V.int .i64 (gi b0 3)), (V.inl Zd r3), (V.inl Ze r4)]) k7) fun r367 =>
          Zak k_ id1 remove6 (IntKind.i64.wrap ((IntKind.i64.wrap (k7 - 1)) + 1)) (V.agg [(V.int .i64 (gi r367 0)), (V.sl 1 Zg 0 none), (V.sl 2 Zf 0 none), (V.int .i64 (gi r367 3)), (V.sl 3 Zd 0 none), (V.sl 4 Ze 0 none)]) (gl r367 1) (gl r367 2) (gl r367 4) (gl r367 5)
        else bif (Zm k7 r1.length) then
          bif (Zm k7 ((r1.set (0 + k7.toNat) (V.agg [(V.inl Zc (gl (rd r1 (0 + k7.toNat)) 0)), (V.inl Zc (gl (rd r1 (0 + k7.toNat)) 1)), (V.int .i64 (gi (rd r1 (0 + k7.toNat)) 2)), (V.int .i64 0)])).length)) then
            Zak k_ id1 remove6 (IntKind.i64.wrap (k7 + 1)) (V.agg [(V.int .i64 (gi b0 0)), (V.sl 1 Zg 0 none), (V.sl 2 Zf 0 none), (V.int .i64 (gi b0 3)), (V.sl 3 Zd 0 none), (V.sl 4 Ze 0 none)]) ((r1.set (0 + k7.toNat) (V.agg [(V.inl Zc (gl (rd r1 (0 + k7.toNat)) 0)), (V.inl Zc (gl (rd r1 (0 + k7.toNat)) 1)), (V.int .i64 (gi (rd r1 (0 + k7.toNat)) 2)), (V.int .i64 0)])).set (0 + k7.toNat) (V.agg [(V.inl Zc (gl (rd (r1.set (0 + k7.toNat) (V.agg [(V.inl Zc (gl (rd r1 (0 + k7.toNat)) 0)), (V.inl Zc (gl (rd r1 (0 + k7.toNat)) 1)), (V.int .i64 (gi (rd r1 (0 + k7.toNat)) 2)), (V.int .i64 0)])) (0 + k7.toNat)) 0)), (V.inl Zc (gl (rd (r1.set (0 + k7.toNat) (V.agg [(V.inl Zc (gl (rd r1 (0 + k7.toNat)) 0)), (V.inl Zc (gl (rd r1 (0 + k7.toNat)) 1)), (V.int .i64 (gi (rd r1 (0 + k7.toNat)) 2)), (V.int .i64 0)])) (0 + k7.toNat)) 1)), (V.int .i64 (gi b0 0)), (V.int .i64 (gi (rd (r1.set (0 + k7.toNat) (V.agg [(V.inl Zc (gl (rd r1 (0 + k7.toNat)) 0)), (V.inl Zc (gl (rd r1 (0 + k7.toNat)) 1)), (V.int .i64 (gi (rd r1 (0 + k7.toNat)) 2)), (V.int .i64 0)])) (0 + k7.toNat)) 3))])) r2 r3 r4
          else none
        else none
      else none
    else some ((V.agg [(V.int .i64 (gi b0 0)), (V.sl 1 Zg 0 none), (V.sl 2 Zf 0 none), (V.int .i64 (gi b0 3)), (V.sl 3 Zd 0 none), (V.sl 4 Ze 0 none)]), r1, r2, r3, r4)
def ZcR (s : V) (id : Int) : Option (Int × V) :=
  Option.bind (Zbk (Za s) id) fun r365 =>
  bif (decide (r365 < 0)) then
    some (1, (Za s))
  else bif (Zm r365 ((gl s 4).length)) then
    Option.bind (ZfC (gl s 4) r365 (IntKind.i64.wrap (r365 + 1))) fun r366 =>
    Option.bind (Zak (((((gl s 1).length : Nat) : Int) - 0).toNat + 1) id (gb (rd (gl s 4) (0 + r365.toNat)) 1) 0 (V.agg [(V.int .i64 (gi s 0)), (V.sl 1 Zg 0 none), (V.sl 2 Zf 0 none), (V.int .i64 (gi s 3)), (V.sl 3 Zd 0 none), (V.sl 4 Ze 0 none)]) (gl s 1) (gl s 2) r366 (gl s 5)) fun r368 =>
    some (0, (V.agg [(V.int .i64 (gi r368.1 0)), (V.inl Zg r368.2.1), (V.inl Zf r368.2.2.1), (V.int .i64 (gi r368.1 3)), (V.inl Zd r368.2.2.2.1), (V.inl Ze r368.2.2.2.2)]))
  else none
def ZbO (s : V) (o : V) : Option (Int × V) :=
  Option.bind (Zbz (Za s) (gl o 1)) fun r344 =>
  bif (decide ((gi o 0) = 1)) then
    bif r344.2 then
      bif (Zm r344.1 ((gl s 1).length)) then
        bif (decide ((gi o 0) = 2)) then
          bif (!(decide ((gi (rd (gl s 1) (0 + r344.1.toNat)) 2) = (gi o 3)))) then
            some (3, (Za s))
          else Option.bind (Z4 (Za s) (gl o 1) (gl o 2)) fun r353 =>
          bif (!r353.1) then
            some (4, (Za r353.2))
          else some (0, (Za r353.2))
        else Option.bind (Z4 (Za s) (gl o 1) (gl o 2)) fun r354 =>
        bif (!r354.1) then
          some (4, (Za r354.2))
        else some (0, (Za r354.2))
      else none
    else bif (decide ((gi o 0) = 2)) then
      bif (!(decide ((0 : Int) = (gi o 3)))) then
        some (3, (Za s))
      else Option.bind (Z4 (Za s) (gl o 1) (gl o 2)) fun r355 =>
      bif (!r355.1) then
        some (4, (Za r355.2))
      else some (0, (Za r355.2))
    else Option.bind (Z4 (Za s) (gl o 1) (gl o 2)) fun r356 =>
    bif (!r356.1) then
      some (4, (Za r356.2))
    else some (0, (Za r356.2))
  else bif (decide ((gi o 0) = 2)) then
    bif r344.2 then
      bif (Zm r344.1 ((gl s 1).length)) then
        bif (decide ((gi o 0) = 2)) then
          bif (!(decide ((gi (rd (gl s 1) (0 + r344.1.toNat)) 2) = (gi o 3)))) then
            some (3, (Za s))
          else Option.bind (Z4 (Za s) (gl o 1) (gl o 2)) fun r357 =>
          bif (!r357.1) then
            some (4, (Za r357.2))
          else some (0, (Za r357.2))
        else Option.bind (Z4 (Za s) (gl o 1) (gl o 2)) fun r358 =>
        bif (!r358.1) then
          some (4, (Za r358.2))
        else some (0, (Za r358.2))
      else none
    else bif (decide ((gi o 0) = 2)) then
      bif (!(decide ((0 : Int) = (gi o 3)))) then
        some (3, (Za s))
      else Option.bind (Z4 (Za s) (gl o 1) (gl o 2)) fun r359 =>
      bif (!r359.1) then
        some (4, (Za r359.2))
      else some (0, (Za r359.2))
    else Option.bind (Z4 (Za s) (gl o 1) (gl o 2)) fun r360 =>
    bif (!r360.1) then
      some (4, (Za r360.2))
    else some (0, (Za r360.2))
  else bif (decide ((gi o 0) = 3)) then
    bif (!r344.2) then
      some (1, (Za s))
    else Option.bind (Zcg (Za s) r344.1) fun r364 =>
    some (0, (Za r364))
  else bif (decide ((gi o 0) = 4)) then
    bif (decide ((((gl s 4).length : Nat) : Int) = 8)) then
      some (4, (Za s))
    else bif ((Zw (((gl s 4).length) + 1) 16) && true) then
      some (0, (V.agg [(V.int .i64 (gi s 0)), (V.inl Zg (gl s 1)), (V.inl Zf (gl s 2)), (V.int .i64 (gi s 3)), (V.inl Zd ((gl s 4) ++ [(V.agg [(V.int .i64 (gi s 0)), (V.bool (decide ((gi o 3) = 1)))])])), (V.inl Ze (gl s 5))]))
    else none
  else bif (decide ((gi o 0) = 5)) then
    Option.bind (ZcR (Za s) (gi o 3)) fun r369 =>
    some (r369.1, (Za r369.2))
  else bif (decide ((gi o 0) = 6)) then
    Option.bind (Zbk (Za s) (gi o 3)) fun r370 =>
    bif (decide (r370 < 0)) then
      some (1, (Za s))
    else bif r344.2 then
      bif (Zm r344.1 ((gl s 1).length)) then
        bif (!(decide ((gi (rd (gl s 1) (0 + r344.1.toNat)) 3) = 0))) then
          bif (Zm r344.1 ((gl s 1).length)) then
            bif (!(decide ((gi (rd (gl s 1) (0 + r344.1.toNat)) 3) = (gi o 3)))) then
              some (2, (Za s))
            else Option.bind (Z4 (Za s) (gl o 1) (gl o 2)) fun r371 =>
            bif (!r371.1) then
              some (4, (Za r371.2))
            else bif (Zm r344.1 ((gl r371.2 1).length)) then
              some (0, (V.agg [(V.int .i64 (gi r371.2 0)), (V.inl Zg ((gl r371.2 1).set (0 + r344.1.toNat) (V.agg [(V.inl Zc (gl (rd (gl r371.2 1) (0 + r344.1.toNat)) 0)), (V.inl Zc (gl (rd (gl r371.2 1) (0 + r344.1.toNat)) 1)), (V.int .i64 (gi (rd (gl r371.2 1) (0 + r344.1.toNat)) 2)), (V.int .i64 (gi o 3))]))), (V.inl Zf (gl r371.2 2)), (V.int .i64 (gi r371.2 3)), (V.inl Zd (gl r371.2 4)), (V.inl Ze (gl r371.2 5))]))
            else none
          else none
        else Option.bind (Z4 (Za s) (gl o 1) (gl o 2)) fun r372 =>
        bif (!r372.1) then
          some (4, (Za r372.2))
        else bif (Zm r344.1 ((gl r372.2 1).length)) then
          some (0, (V.agg [(V.int .i64 (gi r372.2 0)), (V.inl Zg ((gl r372.2 1).set (0 + r344.1.toNat) (V.agg [(V.inl Zc (gl (rd (gl r372.2 1) (0 + r344.1.toNat)) 0)), (V.inl Zc (gl (rd (gl r372.2 1) (0 + r344.1.toNat)) 1)), (V.int .i64 (gi (rd (gl r372.2 1) (0 + r344.1.toNat)) 2)), (V.int .i64 (gi o 3))]))), (V.inl Zf (gl r372.2 2)), (V.int .i64 (gi r372.2 3)), (V.inl Zd (gl r372.2 4)), (V.inl Ze (gl r372.2 5))]))
        else none
      else none
    else Option.bind (Z4 (Za s) (gl o 1) (gl o 2)) fun r373 =>
    bif (!r373.1) then
      some (4, (Za r373.2))
    else bif (Zm r344.1 ((gl r373.2 1).length)) then
      some (0, (V.agg [(V.int .i64 (gi r373.2 0)), (V.inl Zg ((gl r373.2 1).set (0 + r344.1.toNat) (V.agg [(V.inl Zc (gl (rd (gl r373.2 1) (0 + r344.1.toNat)) 0)), (V.inl Zc (gl (rd (gl r373.2 1) (0 + r344.1.toNat)) 1)), (V.int .i64 (gi (rd (gl r373.2 1) (0 + r344.1.toNat)) 2)), (V.int .i64 (gi o 3))]))), (V.inl Zf (gl r373.2 2)), (V.int .i64 (gi r373.2 3)), (V.inl Zd (gl r373.2 4)), (V.inl Ze (gl r373.2 5))]))
    else none
  else bif (decide ((gi o 0) = 7)) then
    bif (!r344.2) then
      some (1, (Za s))
    else bif (Zm r344.1 ((gl s 1).length)) then
      bif (!(decide ((gi (rd (gl s 1) (0 + r344.1.toNat)) 3) = (gi o 3)))) then
        some (1, (Za s))
      else bif (Zm r344.1 ((gl s 1).length)) then
        bif (Zm r344.1 (((gl s 1).set (0 + r344.1.toNat) (V.agg [(V.inl Zc (gl (rd (gl s 1) (0 + r344.1.toNat)) 0)), (V.inl Zc (gl (rd (gl s 1) (0 + r344.1.toNat)) 1)), (V.int .i64 (gi (rd (gl s 1) (0 + r344.1.toNat)) 2)), (V.int .i64 0)])).length)) then
          some (0, (V.agg [(V.int .i64 (gi s 0)), (V.inl Zg (((gl s 1).set (0 + r344.1.toNat) (V.agg [(V.inl Zc (gl (rd (gl s 1) (0 + r344.1.toNat)) 0)), (V.inl Zc (gl (rd (gl s 1) (0 + r344.1.toNat)) 1)), (V.int .i64 (gi (rd (gl s 1) (0 + r344.1.toNat)) 2)), (V.int .i64 0)])).set (0 + r344.1.toNat) (V.agg [(V.inl Zc (gl (rd ((gl s 1).set (0 + r344.1.toNat) (V.agg [(V.inl Zc (gl (rd (gl s 1) (0 + r344.1.toNat)) 0)), (V.inl Zc (gl (rd (gl s 1) (0 + r344.1.toNat)) 1)), (V.int .i64 (gi (rd (gl s 1) (0 + r344.1.toNat)) 2)), (V.int .i64 0)])) (0 + r344.1.toNat)) 0)), (V.inl Zc (gl (rd ((gl s 1).set (0 + r344.1.toNat) (V.agg [(V.inl Zc (gl (rd (gl s 1) (0 + r344.1.toNat)) 0)), (V.inl Zc (gl (rd (gl s 1) (0 + r344.1.toNat)) 1)), (V.int .i64 (gi (rd (gl s 1) (0 + r344.1.toNat)) 2)), (V.int .i64 0)])) (0 + r344.1.toNat)) 1)), (V.int .i64 (gi s 0)), (V.int .i64 (gi (rd ((gl s 1).set (0 + r344.1.toNat) (V.agg [(V.inl Zc (gl (rd (gl s 1) (0 + r344.1.toNat)) 0)), (V.inl Zc (gl (rd (gl s 1) (0 + r344.1.toNat)) 1)), (V.int .i64 (gi (rd (gl s 1) (0 + r344.1.toNat)) 2)), (V.int .i64 0)])) (0 + r344.1.toNat)) 3))]))), (V.inl Zf (gl s 2)), (V.int .i64 (gi s 3)), (V.inl Zd (gl s 4)), (V.inl Ze (gl s 5))]))
        else none
      else none
    else none
  else some (0, (Za s))
def Zds (s : V) (c : V) : Option (V × V) :=
  bif (decide ((gi c 0) < 0)) then
    some ((V.agg [(V.int .i64 0), (V.int .i64 (IntKind.i64.wrap ((gi s 0) + 1)))]), (V.agg [(V.int .i64 (IntKind.i64.wrap ((gi s 0) + 1))), (V.inl Zg (gl s 1)), (V.inl Zf (gl s 2)), (V.int .i64 (gi s 3)), (V.inl Zd (gl s 4)), (V.inl Ze (gl s 5))]))
  else Option.bind (ZdU (V.agg [(V.int .i64 (IntKind.i64.wrap ((gi s 0) + 1))), (V.inl Zg (gl s 1)), (V.inl Zf (gl s 2)), (V.int .i64 (gi s 3)), (V.inl Zd (gl s 4)), (V.inl Ze (gl s 5))]) (gi c 0)) fun r343 =>
  bif r343.2 then
    bif (Zm r343.1 ((gl s 5).length)) then
      bif (decide ((gi (rd (gl s 5) (0 + r343.1.toNat)) 1) = (gi c 1))) then
        bif (Zm r343.1 ((gl s 5).length)) then
          some ((V.agg [(V.int .i64 (gi (rd (gl s 5) (0 + r343.1.toNat)) 2)), (V.int .i64 (gi (rd (gl s 5) (0 + r343.1.toNat)) 3))]), (V.agg [(V.int .i64 (IntKind.i64.wrap ((gi s 0) + 1))), (V.inl Zg (gl s 1)), (V.inl Zf (gl s 2)), (V.int .i64 (gi s 3)), (V.inl Zd (gl s 4)), (V.inl Ze (gl s 5))]))
        else none
      else bif r343.2 then
        bif (Zm r343.1 ((gl s 5).length)) then
          bif (decide ((gi c 1) < (gi (rd (gl s 5) (0 + r343.1.toNat)) 1))) then
            some ((V.agg [(V.int .i64 5), (V.int .i64 (IntKind.i64.wrap ((gi s 0) + 1)))]), (V.agg [(V.int .i64 (IntKind.i64.wrap ((gi s 0) + 1))), (V.inl Zg (gl s 1)), (V.inl Zf (gl s 2)), (V.int .i64 (gi s 3)), (V.inl Zd (gl s 4)), (V.inl Ze (gl s 5))]))
          else Option.bind (ZbO (V.agg [(V.int .i64 (IntKind.i64.wrap ((gi s 0) + 1))), (V.inl Zg (gl s 1)), (V.inl Zf (gl s 2)), (V.int .i64 (gi s 3)), (V.inl Zd (gl s 4)), (V.inl Ze (gl s 5))]) (V.agg [(V.int .i64 (gi c 2)), (V.inl Zc (gl c 3)), (V.inl Zc (gl c 4)), (V.int .i64 (gi c 5))])) fun r374 =>
          bif r343.2 then
            bif (Zm r343.1 ((gl r374.2 5).length)) then
              some ((V.agg [(V.int .i64 r374.1), (V.int .i64 (IntKind.i64.wrap ((gi s 0) + 1)))]), (V.agg [(V.int .i64 (gi r374.2 0)), (V.inl Zg (gl r374.2 1)), (V.inl Zf (gl r374.2 2)), (V.int .i64 (gi r374.2 3)), (V.inl Zd (gl r374.2 4)), (V.inl Ze ((gl r374.2 5).set (0 + r343.1.toNat) (V.agg [(V.int .i64 (gi c 0)), (V.int .i64 (gi c 1)), (V.int .i64 r374.1), (V.int .i64 (IntKind.i64.wrap ((gi s 0) + 1)))])))]))
            else none
          else Option.bind (Zfh 32 (gl r374.2 5) r343.1 [(V.agg [(V.int .i64 (gi c 0)), (V.int .i64 (gi c 1)), (V.int .i64 r374.1), (V.int .i64 (IntKind.i64.wrap ((gi s 0) + 1)))])]) fun r375 =>
          some ((V.agg [(V.int .i64 r374.1), (V.int .i64 (IntKind.i64.wrap ((gi s 0) + 1)))]), (V.agg [(V.int .i64 (gi r374.2 0)), (V.inl Zg (gl r374.2 1)), (V.inl Zf (gl r374.2 2)), (V.int .i64 (gi r374.2 3)), (V.inl Zd (gl r374.2 4)), (V.inl Ze r375)]))
        else none
      else Option.bind (ZbO (V.agg [(V.int .i64 (IntKind.i64.wrap ((gi s 0) + 1))), (V.inl Zg (gl s 1)), (V.inl Zf (gl s 2)), (V.int .i64 (gi s 3)), (V.inl Zd (gl s 4)), (V.inl Ze (gl s 5))]) (V.agg [(V.int .i64 (gi c 2)), (V.inl Zc (gl c 3)), (V.inl Zc (gl c 4)), (V.int .i64 (gi c 5))])) fun r376 =>
      bif r343.2 then
        bif (Zm r343.1 ((gl r376.2 5).length)) then
          some ((V.agg [(V.int .i64 r376.1), (V.int .i64 (IntKind.i64.wrap ((gi s 0) + 1)))]), (V.agg [(V.int .i64 (gi r376.2 0)), (V.inl Zg (gl r376.2 1)), (V.inl Zf (gl r376.2 2)), (V.int .i64 (gi r376.2 3)), (V.inl Zd (gl r376.2 4)), (V.inl Ze ((gl r376.2 5).set (0 + r343.1.toNat) (V.agg [(V.int .i64 (gi c 0)), (V.int .i64 (gi c 1)), (V.int .i64 r376.1), (V.int .i64 (IntKind.i64.wrap ((gi s 0) + 1)))])))]))
        else none
      else Option.bind (Zfh 32 (gl r376.2 5) r343.1 [(V.agg [(V.int .i64 (gi c 0)), (V.int .i64 (gi c 1)), (V.int .i64 r376.1), (V.int .i64 (IntKind.i64.wrap ((gi s 0) + 1)))])]) fun r377 =>
      some ((V.agg [(V.int .i64 r376.1), (V.int .i64 (IntKind.i64.wrap ((gi s 0) + 1)))]), (V.agg [(V.int .i64 (gi r376.2 0)), (V.inl Zg (gl r376.2 1)), (V.inl Zf (gl r376.2 2)), (V.int .i64 (gi r376.2 3)), (V.inl Zd (gl r376.2 4)), (V.inl Ze r377)]))
    else none
  else bif r343.2 then
    bif (Zm r343.1 ((gl s 5).length)) then
      bif (decide ((gi c 1) < (gi (rd (gl s 5) (0 + r343.1.toNat)) 1))) then
        some ((V.agg [(V.int .i64 5), (V.int .i64 (IntKind.i64.wrap ((gi s 0) + 1)))]), (V.agg [(V.int .i64 (IntKind.i64.wrap ((gi s 0) + 1))), (V.inl Zg (gl s 1)), (V.inl Zf (gl s 2)), (V.int .i64 (gi s 3)), (V.inl Zd (gl s 4)), (V.inl Ze (gl s 5))]))
      else Option.bind (ZbO (V.agg [(V.int .i64 (IntKind.i64.wrap ((gi s 0) + 1))), (V.inl Zg (gl s 1)), (V.inl Zf (gl s 2)), (V.int .i64 (gi s 3)), (V.inl Zd (gl s 4)), (V.inl Ze (gl s 5))]) (V.agg [(V.int .i64 (gi c 2)), (V.inl Zc (gl c 3)), (V.inl Zc (gl c 4)), (V.int .i64 (gi c 5))])) fun r378 =>
      bif r343.2 then
        bif (Zm r343.1 ((gl r378.2 5).length)) then
          some ((V.agg [(V.int .i64 r378.1), (V.int .i64 (IntKind.i64.wrap ((gi s 0) + 1)))]), (V.agg [(V.int .i64 (gi r378.2 0)), (V.inl Zg (gl r378.2 1)), (V.inl Zf (gl r378.2 2)), (V.int .i64 (gi r378.2 3)), (V.inl Zd (gl r378.2 4)), (V.inl Ze ((gl r378.2 5).set (0 + r343.1.toNat) (V.agg [(V.int .i64 (gi c 0)), (V.int .i64 (gi c 1)), (V.int .i64 r378.1), (V.int .i64 (IntKind.i64.wrap ((gi s 0) + 1)))])))]))
        else none
      else Option.bind (Zfh 32 (gl r378.2 5) r343.1 [(V.agg [(V.int .i64 (gi c 0)), (V.int .i64 (gi c 1)), (V.int .i64 r378.1), (V.int .i64 (IntKind.i64.wrap ((gi s 0) + 1)))])]) fun r379 =>
      some ((V.agg [(V.int .i64 r378.1), (V.int .i64 (IntKind.i64.wrap ((gi s 0) + 1)))]), (V.agg [(V.int .i64 (gi r378.2 0)), (V.inl Zg (gl r378.2 1)), (V.inl Zf (gl r378.2 2)), (V.int .i64 (gi r378.2 3)), (V.inl Zd (gl r378.2 4)), (V.inl Ze r379)]))
    else none
  else Option.bind (ZbO (V.agg [(V.int .i64 (IntKind.i64.wrap ((gi s 0) + 1))), (V.inl Zg (gl s 1)), (V.inl Zf (gl s 2)), (V.int .i64 (gi s 3)), (V.inl Zd (gl s 4)), (V.inl Ze (gl s 5))]) (V.agg [(V.int .i64 (gi c 2)), (V.inl Zc (gl c 3)), (V.inl Zc (gl c 4)), (V.int .i64 (gi c 5))])) fun r380 =>
  bif r343.2 then
    bif (Zm r343.1 ((gl r380.2 5).length)) then
      some ((V.agg [(V.int .i64 r380.1), (V.int .i64 (IntKind.i64.wrap ((gi s 0) + 1)))]), (V.agg [(V.int .i64 (gi r380.2 0)), (V.inl Zg (gl r380.2 1)), (V.inl Zf (gl r380.2 2)), (V.int .i64 (gi r380.2 3)), (V.inl Zd (gl r380.2 4)), (V.inl Ze ((gl r380.2 5).set (0 + r343.1.toNat) (V.agg [(V.int .i64 (gi c 0)), (V.int .i64 (gi c 1)), (V.int .i64 r380.1), (V.int .i64 (IntKind.i64.wrap ((gi s 0) + 1)))])))]))
    else none
  else Option.bind (Zfh 32 (gl r380.2 5) r343.1 [(V.agg [(V.int .i64 (gi c 0)), (V.int .i64 (gi c 1)), (V.int .i64 r380.1), (V.int .i64 (IntKind.i64.wrap ((gi s 0) + 1)))])]) fun r381 =>
  some ((V.agg [(V.int .i64 r380.1), (V.int .i64 (IntKind.i64.wrap ((gi s 0) + 1)))]), (V.agg [(V.int .i64 (gi r380.2 0)), (V.inl Zg (gl r380.2 1)), (V.inl Zf (gl r380.2 2)), (V.int .i64 (gi r380.2 3)), (V.inl Zd (gl r380.2 4)), (V.inl Ze r381)]))
def ZC (s : V) (c : V) : Option (V × V) :=
  Option.bind (Zd6 (Za s)) fun r319 =>
  bif (!r319) then
    some ((V.agg [(V.int .i64 0), (V.inl Zg []), (V.inl Zf []), (V.int .i64 0), (V.inl Zd []), (V.inl Ze [])]), (V.agg [(V.int .i64 0), (V.int .i64 0)]))
  else Option.bind (Zem (Zn c)) fun r326 =>
  bif (!r326) then
    some ((V.agg [(V.int .i64 0), (V.inl Zg []), (V.inl Zf []), (V.int .i64 0), (V.inl Zd []), (V.inl Ze [])]), (V.agg [(V.int .i64 0), (V.int .i64 0)]))
  else bif (decide ((gi s 0) = 1000000)) then
    some ((V.agg [(V.int .i64 0), (V.inl Zg []), (V.inl Zf []), (V.int .i64 0), (V.inl Zd []), (V.inl Ze [])]), (V.agg [(V.int .i64 0), (V.int .i64 0)]))
  else Option.bind (Zcp (Za s)) fun r340 =>
  Option.bind (Zds (Za r340) (Zn c)) fun r382 =>
  some ((Za r382.2), (ZA r382.1))
def ZdV (s : V) (key : List V) : Option (V) :=
  Option.bind (Zbz (Za s) key) fun r388 =>
  bif r388.2 then
    bif (Zm r388.1 ((gl s 1).length)) then
      bif (Zm r388.1 ((gl s 1).length)) then
        Option.bind (Zaa (gl (rd (gl s 1) r388.1.toNat) 1)) fun r389 =>
        some (V.agg [(V.int .i64 (gi (rd (gl s 1) r388.1.toNat) 2)), (V.bool true), (V.inl Zc r389)])
      else none
    else none
  else Option.bind (ZbJ (Za s) key) fun r390 =>
  bif (decide ((0 : Int) ≤ r390)) then
    bif (Zm r390 ((gl s 2).length)) then
      some (V.agg [(V.int .i64 (gi (rd (gl s 2) r390.toNat) 1)), (V.bool false), (V.inl Zc [])])
    else none
  else some (V.agg [(V.int .i64 (gi s 3)), (V.bool false), (V.inl Zc [])])
def Zck (s : V) (key : List V) : Option (V) :=
  Option.bind (Zd6 (Za s)) fun r386 =>
  bif (!r386) then
    some (V.agg [(V.int .i64 0), (V.bool false), (V.inl Zc [])])
  else Option.bind (ZbI key) fun r387 =>
  bif (!r387) then
    some (V.agg [(V.int .i64 0), (V.bool false), (V.inl Zc [])])
  else Option.bind (ZdV (Za s) key) fun r391 =>
  some (Zb0 r391)
def Za7 (a : List V) (b : List V) : Bool :=
  (Zbx (a.map Zay) (b.map Zay))
def ZaB (a : V) (b : V) : Bool :=
  bif (decide ((gi a 0) = (gi b 0))) then
    bif ((gb a 1) == (gb b 1)) then
      (Za7 (gl a 2) (gl b 2))
    else false
  else false
def Zde (n : Int) : Bool :=
  bif (decide ((0 : Int) ≤ n)) then
    (decide (n ≤ 1000000))
  else false
def Zbv : Nat → List V → Int → Option (Nat × Bool)
  | 0, _, _ => none
  | k_ + 1, b0, i3 =>
    bif (decide (i3 < ((b0.length : Nat) : Int))) then
      bif (Zm i3 b0.length) then
        bif (decide ((gi (rd b0 i3.toNat) 0) < 97)) then
          bif (Zm i3 b0.length) then
            bif (!(decide ((gi (rd b0 i3.toNat) 0) = 47))) then
              some (0, false)
            else Zbv k_ b0 (IntKind.i64.wrap (i3 + 1))
          else none
        else bif (Zm i3 b0.length) then
          bif (decide ((122 : Int) < (gi (rd b0 i3.toNat) 0))) then
            bif (Zm i3 b0.length) then
              bif (!(decide ((gi (rd b0 i3.toNat) 0) = 47))) then
                some (0, false)
              else Zbv k_ b0 (IntKind.i64.wrap (i3 + 1))
            else none
          else Zbv k_ b0 (IntKind.i64.wrap (i3 + 1))
        else none
      else none
    else some (1, false)
def Zb1 (b : List V) : Option (Bool) :=
  bif (decide (((b.length : Nat) : Int) < 1)) then
    some false
  else bif (decide ((20 : Int) < ((b.length : Nat) : Int))) then
    some false
  else Option.bind (Zbv ((((b.length : Nat) : Int) - 0).toNat + 1) b 0) fun r412 =>
  bif (Nat.beq r412.1 0) then
    some r412.2
  else some true
def Zfl (b : List V) : Bool :=
  (decide (((b.length : Nat) : Int) ≤ 20))
def ZaH : Nat → Int → V → Option (Nat × Bool × V)
  | 0, _, _ => none
  | k_ + 1, i3, b0 =>
    bif (decide (i3 < (((gl b0 1).length : Nat) : Int))) then
      bif (Zm i3 ((gl b0 1).length)) then
        Option.bind (Zb1 (gl (rd (gl b0 1) i3.toNat) 0)) fun r413 =>
        bif (!r413) then
          some (0, false, (Za b0))
        else bif (!(Zfl (gl (rd (gl b0 1) i3.toNat) 1))) then
          some (0, false, (Za b0))
        else bif (decide ((gi (rd (gl b0 1) i3.toNat) 2) < 1)) then
          some (0, false, (Za b0))
        else bif (decide ((gi b0 0) < (gi (rd (gl b0 1) i3.toNat) 2))) then
          some (0, false, (Za b0))
        else bif (!(decide ((gi (rd (gl b0 1) i3.toNat) 3) = 0))) then
          Option.bind (ZbF (Za b0) (gi (rd (gl b0 1) i3.toNat) 3)) fun r414 =>
          bif (decide (r414 < 0)) then
            some (0, false, (Za b0))
          else bif (decide ((0 : Int) < i3)) then
            bif (Zm (IntKind.i64.wrap (i3 - 1)) ((gl b0 1).length)) then
              bif (!(Zca ((gl (rd (gl b0 1) ((IntKind.i64.wrap (i3 - 1)).toNat)) 0).map Zay) ((gl (rd (gl b0 1) i3.toNat) 0).map Zay))) then
                some (0, false, (Za b0))
              else ZaH k_ (IntKind.i64.wrap (i3 + 1)) (Za b0)
            else none
          else ZaH k_ (IntKind.i64.wrap (i3 + 1)) (Za b0)
        else bif (decide ((0 : Int) < i3)) then
          bif (Zm (IntKind.i64.wrap (i3 - 1)) ((gl b0 1).length)) then
            bif (!(Zca ((gl (rd (gl b0 1) ((IntKind.i64.wrap (i3 - 1)).toNat)) 0).map Zay) ((gl (rd (gl b0 1) i3.toNat) 0).map Zay))) then
              some (0, false, (Za b0))
            else ZaH k_ (IntKind.i64.wrap (i3 + 1)) (Za b0)
          else none
        else ZaH k_ (IntKind.i64.wrap (i3 + 1)) (Za b0)
      else none
    else some (1, false, (Za b0))
def Za1 : Nat → Int → V → Option (Nat × Bool × V)
  | 0, _, _ => none
  | k_ + 1, i5, b0 =>
    bif (decide (i5 < (((gl b0 2).length : Nat) : Int))) then
      bif (Zm i5 ((gl b0 2).length)) then
        Option.bind (Zb1 (gl (rd (gl b0 2) i5.toNat) 0)) fun r416 =>
        bif (!r416) then
          some (0, false, (Za b0))
        else Option.bind (Zbb (Za b0) (gl (rd (gl b0 2) i5.toNat) 0)) fun r417 =>
        bif (decide ((0 : Int) ≤ r417)) then
          some (0, false, (Za b0))
        else Option.bind (ZdJ (Za b0) (gl (rd (gl b0 2) i5.toNat) 0)) fun r418 =>
        bif (!(decide (r418 = i5))) then
          some (0, false, (Za b0))
        else bif (decide ((gi (rd (gl b0 2) i5.toNat) 1) < 1)) then
          some (0, false, (Za b0))
        else bif (decide ((gi b0 0) < (gi (rd (gl b0 2) i5.toNat) 1))) then
          some (0, false, (Za b0))
        else bif (decide ((gi (rd (gl b0 2) i5.toNat) 1) < (gi b0 3))) then
          some (0, false, (Za b0))
        else bif (decide ((0 : Int) < i5)) then
          bif (Zm (IntKind.i64.wrap (i5 - 1)) ((gl b0 2).length)) then
            bif (decide ((gi (rd (gl b0 2) i5.toNat) 1) < (gi (rd (gl b0 2) ((IntKind.i64.wrap (i5 - 1)).toNat)) 1))) then
              some (0, false, (Za b0))
            else Za1 k_ (IntKind.i64.wrap (i5 + 1)) (Za b0)
          else none
        else Za1 k_ (IntKind.i64.wrap (i5 + 1)) (Za b0)
      else none
    else some (1, false, (Za b0))
def Za2 : Nat → Int → V → Option (Nat × Bool × V)
  | 0, _, _ => none
  | k_ + 1, i7, b0 =>
    bif (decide (i7 < (((gl b0 4).length : Nat) : Int))) then
      bif (Zm i7 ((gl b0 4).length)) then
        bif (decide ((gi (rd (gl b0 4) i7.toNat) 0) < 1)) then
          some (0, false, (Za b0))
        else bif (Zm i7 ((gl b0 4).length)) then
          bif (decide ((gi b0 0) < (gi (rd (gl b0 4) i7.toNat) 0))) then
            some (0, false, (Za b0))
          else bif (decide ((0 : Int) < i7)) then
            bif (Zm (IntKind.i64.wrap (i7 - 1)) ((gl b0 4).length)) then
              bif (Zm i7 ((gl b0 4).length)) then
                bif (decide ((gi (rd (gl b0 4) i7.toNat) 0) ≤ (gi (rd (gl b0 4) ((IntKind.i64.wrap (i7 - 1)).toNat)) 0))) then
                  some (0, false, (Za b0))
                else Za2 k_ (IntKind.i64.wrap (i7 + 1)) (Za b0)
              else none
            else none
          else Za2 k_ (IntKind.i64.wrap (i7 + 1)) (Za b0)
        else none
      else none
    else some (1, false, (Za b0))
def Za3 : Nat → Int → V → Option (Nat × Bool)
  | 0, _, _ => none
  | k_ + 1, i8, b0 =>
    bif (decide (i8 < (((gl b0 5).length : Nat) : Int))) then
      bif (Zm i8 ((gl b0 5).length)) then
        bif (decide ((gi (rd (gl b0 5) i8.toNat) 0) < 0)) then
          some (0, false)
        else bif (decide ((4 : Int) ≤ (gi (rd (gl b0 5) i8.toNat) 0))) then
          some (0, false)
        else bif (decide ((gi (rd (gl b0 5) i8.toNat) 1) < 1)) then
          some (0, false)
        else bif (decide ((1000000 : Int) < (gi (rd (gl b0 5) i8.toNat) 1))) then
          some (0, false)
        else bif (decide ((gi (rd (gl b0 5) i8.toNat) 2) < 0)) then
          some (0, false)
        else bif (decide ((5 : Int) < (gi (rd (gl b0 5) i8.toNat) 2))) then
          some (0, false)
        else bif (decide ((gi (rd (gl b0 5) i8.toNat) 3) < 1)) then
          some (0, false)
        else bif (decide ((gi b0 0) < (gi (rd (gl b0 5) i8.toNat) 3))) then
          some (0, false)
        else bif (decide ((0 : Int) < i8)) then
          bif (Zm (IntKind.i64.wrap (i8 - 1)) ((gl b0 5).length)) then
            bif (decide ((gi (rd (gl b0 5) i8.toNat) 0) ≤ (gi (rd (gl b0 5) ((IntKind.i64.wrap (i8 - 1)).toNat)) 0))) then
              some (0, false)
            else Za3 k_ (IntKind.i64.wrap (i8 + 1)) (Za b0)
          else none
        else Za3 k_ (IntKind.i64.wrap (i8 + 1)) (Za b0)
      else none
    else some (1, false)
def Zd7 (s : V) : Option (Bool) :=
  bif (!(Zde (gi s 0))) then
    some false
  else bif (decide ((20 : Int) < (((gl s 1).length : Nat) : Int))) then
    some false
  else bif (decide ((10 : Int) < (((gl s 2).length : Nat) : Int))) then
    some false
  else bif (decide ((gi s 3) < 0)) then
    some false
  else bif (decide ((gi s 0) < (gi s 3))) then
    some false
  else bif (decide ((8 : Int) < (((gl s 4).length : Nat) : Int))) then
    some false
  else bif (decide ((4 : Int) < (((gl s 5).length : Nat) : Int))) then
    some false
  else Option.bind (ZaH (((((gl (Za s) 1).length : Nat) : Int) - 0).toNat + 1) 0 (Za s)) fun r415 =>
  bif (Nat.beq r415.1 0) then
    some r415.2.1
  else Option.bind (Za1 (((((gl (Za r415.2.2) 2).length : Nat) : Int) - 0).toNat + 1) 0 (Za r415.2.2)) fun r419 =>
  bif (Nat.beq r419.1 0) then
    some r419.2.1
  else Option.bind (Za2 (((((gl (Za r419.2.2) 4).length : Nat) : Int) - 0).toNat + 1) 0 (Za r419.2.2)) fun r420 =>
  bif (Nat.beq r420.1 0) then
    some r420.2.1
  else Option.bind (Za3 (((((gl (Za r420.2.2) 5).length : Nat) : Int) - 0).toNat + 1) 0 (Za r420.2.2)) fun r421 =>
  bif (Nat.beq r421.1 0) then
    some r421.2
  else some true
def Ze0 (code : List V) (i : Int) : Option (Int) :=
  bif (decide (((code.length : Nat) : Int) = 0)) then
    some 0
  else bif (!(decide (((code.length : Nat) : Int) = 0))) then
    bif (Zm (i.tmod ((code.length : Nat) : Int)) code.length) then
      some (IntKind.i64.wrap (gi (rd code ((i.tmod ((code.length : Nat) : Int)).toNat)) 0))
    else none
  else none
def Zat : Nat → Int → V → V → V → List V → List V → List V → List V → List V → Option (Nat × Bool × V × V × List V × List V × List V × List V)
  | 0, _, _, _, _, _, _, _, _, _ => none
  | k_ + 1, i8, b0, b1, b2, r3, r4, r5, r6, r7 =>
    bif (decide (i8 < (((gl b0 1).length : Nat) : Int))) then
      bif (Zm i8 ((gl b0 1).length)) then
        Option.bind (Zck (V.agg [(V.int .i64 (gi b2 0)), (V.inl Zg r4), (V.inl Zf r5), (V.int .i64 (gi b2 3)), (V.inl Zd r6), (V.inl Ze r7)]) (gl (rd (gl b0 1) i8.toNat) 0)) fun r446 =>
        bif (!(decide ((gi (rd (gl b0 1) i8.toNat) 3) = (gi b1 0)))) then
          bif (!(ZaB (Zb0 r446) (V.agg [(V.int .i64 (gi (rd (gl b0 1) i8.toNat) 2)), (V.bool true), (V.inl Zc (gl (rd (gl b0 1) i8.toNat) 1))]))) then
            some (0, false, (ZD b1), (V.agg [(V.int .i64 (gi b2 0)), (V.sl 2 Zg 0 none), (V.sl 3 Zf 0 none), (V.int .i64 (gi b2 3)), (V.sl 4 Zd 0 none), (V.sl 5 Ze 0 none)]), r4, r5, r6, r7)
          else Zat k_ (IntKind.i64.wrap (i8 + 1)) (V.agg [(V.int .i64 (gi b0 0)), (V.inl Zg (gl b0 1)), (V.inl Zf (gl b0 2)), (V.int .i64 (gi b0 3)), (V.inl Zd (gl b0 4)), (V.sl 3 Ze 0 none)]) (ZD b1) (V.agg [(V.int .i64 (gi b2 0)), (V.sl 4 Zg 0 none), (V.sl 5 Zf 0 none), (V.int .i64 (gi b2 3)), (V.sl 6 Zd 0 none), (V.sl 7 Ze 0 none)]) r3 r4 r5 r6 r7
        else bif ((gb r446 1) == (gb b1 1)) then
          some (0, false, (ZD b1), (V.agg [(V.int .i64 (gi b2 0)), (V.sl 2 Zg 0 none), (V.sl 3 Zf 0 none), (V.int .i64 (gi b2 3)), (V.sl 4 Zd 0 none), (V.sl 5 Ze 0 none)]), r4, r5, r6, r7)
        else bif (!(decide ((gi r446 0) = (gi b2 0)))) then
          some (0, false, (ZD b1), (V.agg [(V.int .i64 (gi b2 0)), (V.sl 2 Zg 0 none), (V.sl 3 Zf 0 none), (V.int .i64 (gi b2 3)), (V.sl 4 Zd 0 none), (V.sl 5 Ze 0 none)]), r4, r5, r6, r7)
        else Zat k_ (IntKind.i64.wrap (i8 + 1)) (V.agg [(V.int .i64 (gi b0 0)), (V.inl Zg (gl b0 1)), (V.inl Zf (gl b0 2)), (V.int .i64 (gi b0 3)), (V.inl Zd (gl b0 4)), (V.sl 3 Ze 0 none)]) (ZD b1) (V.agg [(V.int .i64 (gi b2 0)), (V.sl 4 Zg 0 none), (V.sl 5 Zf 0 none), (V.int .i64 (gi b2 3)), (V.sl 6 Zd 0 none), (V.sl 7 Ze 0 none)]) r3 r4 r5 r6 r7
      else none
    else some (1, false, (ZD b1), (V.agg [(V.int .i64 (gi b2 0)), (V.sl 2 Zg 0 none), (V.sl 3 Zf 0 none), (V.int .i64 (gi b2 3)), (V.sl 4 Zd 0 none), (V.sl 5 Ze 0 none)]), r4, r5, r6, r7)
def ZaL : Nat → Int → V → V → List V → List V → List V → List V → Option (Nat × Bool)
  | 0, _, _, _, _, _, _, _ => none
  | k_ + 1, i11, b0, b1, r2, r3, r4, r5 =>
    bif (decide (i11 < ((r2.length : Nat) : Int))) then
      bif (Zm i11 r2.length) then
        bif (decide ((gi (rd r2 (0 + i11.toNat)) 3) = (gi b0 0))) then
          some (0, false)
        else ZaL k_ (IntKind.i64.wrap (i11 + 1)) (ZD b0) (V.agg [(V.int .i64 (gi b1 0)), (V.sl 2 Zg 0 none), (V.sl 3 Zf 0 none), (V.int .i64 (gi b1 3)), (V.sl 4 Zd 0 none), (V.sl 5 Ze 0 none)]) r2 r3 r4 r5
      else none
    else some (1, false)
def Zdg (code : List V) : Option (Bool) :=
  Option.bind (Zbm code) fun r442 =>
  Option.bind (Zd7 (Za r442.1)) fun r443 =>
  bif (!r443) then
    some Zcb
  else bif (decide ((1000000 : Int) ≤ (gi r442.1 0))) then
    some Zcb
  else bif (decide ((((gl r442.1 4).length : Nat) : Int) = 0)) then
    some Zcb
  else Option.bind (Ze0 code 1) fun r444 =>
  bif (!(decide ((((gl r442.1 4).length : Nat) : Int) = 0))) then
    bif (Zm (r444.tmod (((gl r442.1 4).length : Nat) : Int)) ((gl r442.1 4).length)) then
      Option.bind (ZC (V.agg [(V.int .i64 (gi r442.1 0)), (V.inl Zg (gl r442.1 1)), (V.inl Zf (gl r442.1 2)), (V.int .i64 (gi r442.1 3)), (V.inl Zd (gl r442.1 4)), (V.inl Ze [])]) (V.agg [(V.int .i64 0), (V.int .i64 1), (V.int .i64 5), (V.inl Zc []), (V.inl Zc []), (V.int .i64 (gi (rd (gl r442.1 4) (0 + ((r444.tmod (((gl r442.1 4).length : Nat) : Int)).toNat))) 0))])) fun r445 =>
      bif (!(decide ((gi r445.2 0) = 0))) then
        some false
      else bif (!(decide ((((gl r445.1 4).length : Nat) : Int) = (IntKind.i64.wrap ((((gl r442.1 4).length : Nat) : Int) - 1))))) then
        some false
      else Option.bind (Zat (((((gl (V.agg [(V.int .i64 (gi r442.1 0)), (V.inl Zg (gl r442.1 1)), (V.inl Zf (gl r442.1 2)), (V.int .i64 (gi r442.1 3)), (V.inl Zd (gl r442.1 4)), (V.sl 3 Ze 0 none)]) 1).length : Nat) : Int) - 0).toNat + 1) 0 (V.agg [(V.int .i64 (gi r442.1 0)), (V.inl Zg (gl r442.1 1)), (V.inl Zf (gl r442.1 2)), (V.int .i64 (gi r442.1 3)), (V.inl Zd (gl r442.1 4)), (V.sl 3 Ze 0 none)]) (ZD (rd (gl r442.1 4) (0 + ((r444.tmod (((gl r442.1 4).length : Nat) : Int)).toNat)))) (V.agg [(V.int .i64 (gi r445.1 0)), (V.sl 4 Zg 0 none), (V.sl 5 Zf 0 none), (V.int .i64 (gi r445.1 3)), (V.sl 6 Zd 0 none), (V.sl 7 Ze 0 none)]) [] (gl r445.1 1) (gl r445.1 2) (gl r445.1 4) (gl r445.1 5)) fun r447 =>
      bif (Nat.beq r447.1 0) then
        some r447.2.1
      else Option.bind (ZaL ((((r447.2.2.2.2.1.length : Nat) : Int) - 0).toNat + 1) 0 (ZD r447.2.2.1) (V.agg [(V.int .i64 (gi r447.2.2.2.1 0)), (V.sl 2 Zg 0 none), (V.sl 3 Zf 0 none), (V.int .i64 (gi r447.2.2.2.1 3)), (V.sl 4 Zd 0 none), (V.sl 5 Ze 0 none)]) r447.2.2.2.2.1 r447.2.2.2.2.2.1 r447.2.2.2.2.2.2.1 r447.2.2.2.2.2.2.2) fun r448 =>
      bif (Nat.beq r448.1 0) then
        some r448.2
      else some true
    else none
  else none
end Go.Eng.R
