/- An own evaluator of the program's form, proved sound, and what it says of this law's functions: part 3. -/
import Derived.Test.YtjhdhgbboomecaaGreatE2
import Derived.ChangeSame
import Derived.ChangeStays
import Derived.Deep.RegionLaw
import Derived.Handed
import Derived.IntWalk
import Derived.Laws.Externs
import Derived.Laws.IdiomCopy
import Derived.Laws.NewBlocks
import Derived.Lib.AppendZeros
import Derived.Lib.AppendZerosOnto
import Derived.Lib.Bytealg
import Derived.Lib.BytesEntry
import Derived.Lib.Overlaps
import Derived.ReadAgain
import Derived.Test.YtjhdhgbboomecaaGreatChecked
import Derived.Test.YtjhdhgbboomecaaGreatProg
set_option linter.unusedVariables false
namespace Go.Eng
def I64 (n : Int) : Prop := -9223372036854775808 ≤ n ∧ n ≤ 9223372036854775807
theorem ZaC {n : Int} (h1 : -9223372036854775808 ≤ n) (h2 : n ≤ 9223372036854775807) : IntKind.i64.wrap n = n := IntWalk.i64_in n ⟨h1, h2⟩
def LW (w : V → Prop) (l : List V) : Prop := l.length ≤ 9223372036854775807 ∧ ∀ x ∈ l, w x
def Zcu (x : V) : Prop := 0 ≤ gi x 0 ∧ gi x 0 ≤ 255
def W_int (x : V) : Prop := I64 (gi x 0)
def c1 (_ : V) : Nat := 1
theorem LW.rd {w : V → Prop} {l : List V} (h : LW w l) {i : Nat} (hi : i < l.length) : w (Eng.rd l i) := by
  have : Eng.rd l i = l[i] := by simp [Eng.rd, List.getD, hi]
  rw [this]; exact h.2 _ (List.getElem_mem hi)
theorem gi_c0 (k : IntKind) (n : Int) (l : List V) : gi (.agg (.int k n :: l)) 0 = n := rfl
theorem gl_c0 (T : TypeId) (x l : List V) : gl (.agg (.inl T x :: l)) 0 = x := rfl
theorem gi_cs (v : V) (l : List V) (j : Nat) : gi (.agg (v :: l)) (j + 1) = gi (.agg l) j := rfl
theorem gl_cs (v : V) (l : List V) (j : Nat) : gl (.agg (v :: l)) (j + 1) = gl (.agg l) j := rfl
theorem Zo {i n : Nat} (h : i < n) : Zm (i : Int) n = true := by simp [Zm]; omega
theorem Z7 {i n : Nat} (h : i < n) : decide (((i : Nat) : Int) < ((n : Nat) : Int)) = true := by simp; omega
theorem ZX (n : Nat) : decide (((n : Nat) : Int) < ((n : Nat) : Int)) = false := by simp
theorem Z0 {i n : Nat} (h : i < n) (hn : n ≤ 9223372036854775807) : IntKind.i64.wrap ((i : Int) + 1) = ((i + 1 : Nat) : Int) := by
  rw [ZaC (by omega) (by omega)]; omega
theorem ZaT (n : Nat) : (((n : Nat) : Int) - 0).toNat + 1 = n + 1 := by omega
theorem roomy_of {n b : Nat} (h : n * b ≤ 140737488355328) (h1 : n ≤ 9223372036854775807) : Zv n b = true := by simp [Zv, h, h1]
theorem loop_run {σ ρ : Type} {F : Nat → σ → Int → ρ} {n : Nat} (I : Nat → σ → Prop) (Q : ρ → Prop)
    (step : ∀ m i s, i < n → I i s → (∃ s', F (m + 1) s (i : Int) = F m s' ((i + 1 : Nat) : Int) ∧ I (i + 1) s') ∨ Q (F (m + 1) s (i : Int)))
    (fin : ∀ m s, I n s → Q (F (m + 1) s (n : Int))) :
    ∀ m i s, i ≤ n → n - i < m → I i s → Q (F m s (i : Int))
  | 0, i, s, _, h, _ => by omega
  | m + 1, i, s, hi, hm, hI => by
    rcases Nat.lt_or_ge i n with hlt | hge
    · rcases step m i s hlt hI with ⟨s', e, hI'⟩ | h
      · rw [e]; exact loop_run I Q step fin m (i + 1) s' (by omega) (by omega) hI'
      · exact h
    · obtain rfl : i = n := by omega
      exact fin m s hI
theorem ZbS {σ ρ : Type} {F : Nat → σ → Int → ρ} {n : Nat} (I : Nat → σ → Prop) (Q : ρ → Prop)
    (step : ∀ m i s, i < n → I i s → (∃ s', F (m + 1) s (i : Int) = F m s' ((i + 1 : Nat) : Int) ∧ I (i + 1) s') ∨ Q (F (m + 1) s (i : Int)))
    (fin : ∀ m s, I n s → Q (F (m + 1) s (n : Int))) {s : σ} (h : I 0 s) : Q (F (n + 1) s 0) :=
  loop_run I Q step fin (n + 1) 0 s (by omega) (by omega) h
theorem skip_loop {ρ : Type} {F : Nat → Int → ρ} {n : Nat} {out : ρ} (h1 : ∀ m (i : Nat), i < n → F (m + 1) (i : Int) = F m ((i + 1 : Nat) : Int)) (h0 : ∀ m, F (m + 1) (n : Int) = out) : F (n + 1) 0 = out :=
  ZbS (F := fun m (_ : Unit) i => F m i) (n := n) (fun _ _ => True) (fun o => o = out) (fun m i s hi _ => .inl ⟨(), h1 m i hi, trivial⟩) (fun m s _ => h0 m) (s := ()) trivial
end Go.Eng
namespace Go.Eng
open Go.ChangeShapes Go.WideShapes
inductive Wt (tab : Tab) : Ck → V → Prop where
  | int (k : IntKind) (n : Int) : (Lit.int k n).wf = true → Wt tab (.int k) (.int k n)
  | bool (b : Bool) : Wt tab .bool (.bool b)
  | str (s : ByteArray) : s.size ≤ 9223372036854775807 → Wt tab .str (.str (Z2 s))
  | sl (T : TypeId) (ty : Ty) (l : List V) : tab T = some ty → l.length ≤ 9223372036854775807 → (∀ i, i < l.length → Zbo ty (l.getD i .dead)) →
      (∀ i j, i < l.length → j < ty.kinds.length → Wt tab (ty.kinds.getD j .other) ((l.getD i .dead).cell j)) → Wt tab (.sl T) (.inl T l)
def WtT (tab : Tab) (T : TypeId) (x : V) : Prop := ∃ ty, tab T = some ty ∧ Zbo ty x ∧ ∀ j, j < ty.kinds.length → Wt tab (ty.kinds.getD j .other) (x.cell j)
theorem Wt.kindOk {tab : Tab} {k : Ck} {x : V} (h : Wt tab k x) : kindOk k x := by
  cases h <;> simp [Eng.kindOk]
def kindsOf (tab : Tab) (T : TypeId) : List Ck := match tab T with
  | some ty => ty.kinds
  | none => []
def fieldsB (P : Program) (tab : Tab) (R : List TypeId) : Nat → List Field → Bool
  | _, [] => true
  | o, f :: r => R.contains f.type && (decide (f.offset = o) && (decide (P.cellsOf f.type = (kindsOf tab f.type).length) && fieldsB P tab R (o + (kindsOf tab f.type).length) r))
def readB1 (P : Program) (tab : Tab) (R : List TypeId) (t : TypeId) : Bool :=
  match tab t with
  | none => false
  | some ty => decide (P.cellsOf t = ty.kinds.length) && match P.underlying t with
    | some (.int k) => !ty.agg && decide (ty.kinds = [.int k])
    | some .bool => !ty.agg && decide (ty.kinds = [.bool])
    | some .string => !ty.agg && decide (ty.kinds = [.str])
    | some (.slice e) => !ty.agg && (decide (ty.kinds = [.sl e]) && R.contains e)
    | some (.struct fs) => ty.agg && (fieldsB P tab R 0 fs.toList && decide (ty.kinds = fs.toList.flatMap fun f => kindsOf tab f.type))
    | _ => false
def readB (P : Program) (tab : Tab) (R : List TypeId) : Bool := R.all (readB1 P tab R)
section
variable {H : Type} {enc : TypeId × Value → H} {P : Program} {tab : Tab} {w : World} {sp : Nat → Bool} {held : Bool}
def CellsIs (tab : Tab) (w : World) (ks : List Ck) (cs : List Value) (ys : List V) : Prop :=
  ys.length = ks.length ∧ cs.length = ks.length ∧ (∀ j, j < ks.length → Rp tab w (· < w.heap.size) (ys.getD j .dead) (cs.getD j undef)) ∧ ∀ j, j < ks.length → Wt tab (ks.getD j .other) (ys.getD j .dead)
theorem CellsIs.one {k : Ck} {v : Value} {y : V} (h1 : Rp tab w (· < w.heap.size) y v) (h2 : Wt tab k y) : CellsIs tab w [k] [v] [y] := by
  refine ⟨rfl, rfl, fun j hj => ?_, fun j hj => ?_⟩ <;>
  · have : j = 0 := by simpa using hj
    subst this
    assumption
theorem CellsIs.append {k1 k2 : List Ck} {c1 c2 : List Value} {y1 y2 : List V} (h1 : CellsIs tab w k1 c1 y1) (h2 : CellsIs tab w k2 c2 y2) : CellsIs tab w (k1 ++ k2) (c1 ++ c2) (y1 ++ y2) := by
  obtain ⟨a1, a2, a3, a4⟩ := h1
  obtain ⟨b1, b2, b3, b4⟩ := h2
  refine ⟨by simp [a1, b1], by simp [a2, b2], fun j hj => ?_, fun j hj => ?_⟩
  · simp only [List.length_append] at hj
    by_cases h : j < k1.length
    · have e1 : (y1 ++ y2).getD j .dead = y1.getD j .dead := by simp [List.getD, List.getElem?_append_left (show j < y1.length by omega)]
      have e2 : (c1 ++ c2).getD j undef = c1.getD j undef := by simp [List.getD, List.getElem?_append_left (show j < c1.length by omega)]
      rw [e1, e2]; exact a3 j h
    · have e1 : (y1 ++ y2).getD j .dead = y2.getD (j - k1.length) .dead := by simp [List.getD, List.getElem?_append_right (show y1.length ≤ j by omega), a1]
      have e2 : (c1 ++ c2).getD j undef = c2.getD (j - k1.length) undef := by simp [List.getD, List.getElem?_append_right (show c1.length ≤ j by omega), a2]
      rw [e1, e2]; exact b3 _ (by omega)
  · simp only [List.length_append] at hj
    by_cases h : j < k1.length
    · have e1 : (y1 ++ y2).getD j .dead = y1.getD j .dead := by simp [List.getD, List.getElem?_append_left (show j < y1.length by omega)]
      have e2 : (k1 ++ k2).getD j .other = k1.getD j .other := by simp [List.getD, List.getElem?_append_left (show j < k1.length by omega)]
      rw [e1, e2]; exact a4 j h
    · have e1 : (y1 ++ y2).getD j .dead = y2.getD (j - k1.length) .dead := by simp [List.getD, List.getElem?_append_right (show y1.length ≤ j by omega), a1]
      have e2 : (k1 ++ k2).getD j .other = k2.getD (j - k1.length) .other := by simp [List.getD, List.getElem?_append_right (show k1.length ≤ j by omega)]
      rw [e1, e2]; exact b4 _ (by omega)
theorem CellsIs.shape {T : TypeId} {ty : Ty} (hty : TyOk P tab T ty) {cs : List Value} {ys : List V} (h : CellsIs tab w ty.kinds cs ys) : Zbo ty (Eng.mk ty.agg ys) ∧ (Eng.mk ty.agg ys).cells = ys :=
  shape_mk hty h.1 fun j hj => (h.2.2.2 j hj).kindOk
theorem fields_read {R : List TypeId} {n : Nat} (ih : ∀ t ∈ R, ∀ cs x, DataW.trod enc P w 0 sp held n t cs = some x → ∃ ty ys, tab t = some ty ∧ CellsIs tab w ty.kinds cs ys) (cs : List Value) :
    ∀ (fs : List Field) (o : Nat) (xs : List (DataW H × List MemPlace)), fieldsB P tab R o fs = true →
      (fs.mapM fun f => DataW.trod enc P w 0 sp held n f.type ((cs.drop f.offset).take (P.cellsOf f.type))) = some xs →
      ∃ ys, CellsIs tab w (fs.flatMap fun f => kindsOf tab f.type) ((cs.drop o).take ((fs.flatMap fun f => kindsOf tab f.type).length)) ys
  | [], o, xs, _, _ => ⟨[], rfl, by simp, fun j hj => by simp at hj, fun j hj => by simp at hj⟩
  | f :: fs, o, xs, hB, hx => by
    simp only [fieldsB, Bool.and_eq_true, decide_eq_true_eq, List.contains_iff_mem] at hB
    obtain ⟨h1, h2, h3, h4⟩ := hB
    rw [List.mapM_cons] at hx
    obtain ⟨x, hx1, hx2⟩ := Option.bind_eq_some_iff.1 hx
    obtain ⟨xr, hx3, hx4⟩ := Option.bind_eq_some_iff.1 hx2
    obtain ⟨ty, ys1, e1, c1⟩ := ih _ h1 _ _ hx1
    obtain ⟨ys2, c2⟩ := fields_read ih cs fs _ _ h4 hx3
    have ek : kindsOf tab f.type = ty.kinds := by simp [kindsOf, e1]
    refine ⟨ys1 ++ ys2, ?_⟩
    rw [h2, h3, ek] at c1
    rw [ek] at c2
    have := c1.append c2
    rw [List.flatMap_cons, ek]
    refine cast ?_ this
    congr 1
    rw [List.length_append]
    rw [← List.drop_drop, List.take_add]
theorem add_zero' (a : Addr) : a.add 0 = a := by simp [Addr.add]
theorem add_plain {a : Addr} (h : a.spot = none) (n : Nat) : a.add n = ⟨a.block, a.off + n, none⟩ := by
  cases a
  simp only at h
  subst h
  unfold Addr.add
  split
  · simp_all
  · rfl
theorem cells_read (hT : Zu P tab) {R : List TypeId} (hR : readB P tab R = true) : ∀ (n : Nat), ∀ t ∈ R, ∀ (cs : List Value) (x : DataW H × List MemPlace), DataW.trod enc P w 0 sp held n t cs = some x →
    ∃ ty ys, tab t = some ty ∧ CellsIs tab w ty.kinds cs ys
  | 0, t, ht, cs, x, h => by simp [DataW.trod] at h
  | n + 1, t, ht, cs, x, h => by
    have h1 := List.all_eq_true.1 hR t ht
    unfold readB1 at h1
    split at h1
    · cases h1
    rename_i ty hty
    simp only [Bool.and_eq_true, decide_eq_true_eq] at h1
    obtain ⟨hcells, h1⟩ := h1
    refine ⟨ty, ?_⟩
    have ih := cells_read hT hR n
    unfold DataW.trod at h
    split at h1
    · rename_i k hu
      simp only [Bool.and_eq_true, decide_eq_true_eq] at h1
      rw [hu] at h
      split at h <;> simp_all
      exact ⟨_, CellsIs.one (.int _ _) (.int _ _ (by rename_i hh; exact h.1.2))⟩
    · rename_i hu
      simp only [Bool.and_eq_true, decide_eq_true_eq] at h1
      rw [hu] at h
      split at h <;> simp_all
      exact ⟨_, CellsIs.one (.bool _) (.bool _)⟩
    · rename_i hu
      simp only [Bool.and_eq_true, decide_eq_true_eq] at h1
      rw [hu] at h
      split at h <;> simp_all
      exact ⟨_, CellsIs.one (.str _ _ rfl) (.str _ (by rename_i hh; have := h.1; unfold maxLen at this; omega))⟩
    · rename_i e hu
      simp only [Bool.and_eq_true, decide_eq_true_eq, List.contains_iff_mem, Bool.not_eq_true'] at h1
      obtain ⟨ha, hk, he⟩ := h1
      rw [hu] at h
      have e1 := List.all_eq_true.1 hR e he
      obtain ⟨ty2, hty2⟩ : ∃ ty2, tab e = some ty2 := by
        unfold readB1 at e1
        split at e1
        · cases e1
        · rename_i ty2 h2; exact ⟨ty2, h2⟩
      have hsz : P.cellsOf e = ty2.kinds.length := by
        unfold readB1 at e1
        rw [hty2] at e1
        simp only [Bool.and_eq_true, decide_eq_true_eq] at e1
        exact e1.1
      have hpos := (hT e ty2 hty2).pos
      rw [hk]
      split at h
      case h_7 =>
        exact ⟨_, hty, CellsIs.one (.inl e [] ty2 none 0 0 0 (fun _ _ => undef) hty2 (by simp) (by simp) (by simp) (by simp) (by simp)) (.sl e ty2 [] hty2 (by simp) (by simp) (by simp))⟩
      case h_8 e' a len cap heq =>
        cases heq
        simp only at h
        split at h
        case isFalse => cases h
        rename_i hc
        obtain ⟨-, hlc, hcm⟩ := hc
        obtain ⟨elems, hel, -⟩ := Option.bind_eq_some_iff.1 h
        have hlen : elems.length = len := by simpa using mapM_some_length hel
        have hone : ∀ i, i < len → ∃ csi ys, w.cells? 0 (a.add (i * P.cellsOf e)) (P.cellsOf e) = some csi ∧ CellsIs tab w ty2.kinds csi ys := by
          intro i hi
          have hg := mapM_some_get hel i i (by simp [hi])
          obtain ⟨y, hy⟩ : ∃ y, elems[i]? = some y := ⟨elems[i], by simp [hlen, hi]⟩
          rw [hy] at hg
          obtain ⟨csi, k1, k2⟩ := Option.bind_eq_some_iff.1 hg
          obtain ⟨ty3, ys, k3, k4⟩ := ih e he csi y k2
          obtain rfl : ty2 = ty3 := Option.some.inj (hty2.symm.trans k3)
          exact ⟨csi, ys, k1, k4⟩
        have hfull : ∀ i, ∃ csi ys, i < len → w.cells? 0 (a.add (i * P.cellsOf e)) (P.cellsOf e) = some csi ∧ CellsIs tab w ty2.kinds csi ys := fun i => by
          by_cases hi : i < len
          · obtain ⟨csi, ys, k⟩ := hone i hi; exact ⟨csi, ys, fun _ => k⟩
          · exact ⟨[], [], fun h => absurd h hi⟩
        have hfull' := Classical.axiomOfChoice hfull
        obtain ⟨C, hC⟩ := hfull'
        have hC' := Classical.axiomOfChoice hC
        obtain ⟨Y, hY⟩ := hC'
        let l : List V := (List.range len).map fun i => Eng.mk ty2.agg (Y i)
        have hll : l.length = len := by simp [l]
        have hget : ∀ i, i < len → l.getD i .dead = Eng.mk ty2.agg (Y i) := fun i hi => by simp [l, List.getD, hi]
        have hsh : ∀ i, i < l.length → Zbo ty2 (l.getD i .dead) := fun i hi => by
          rw [hll] at hi
          rw [hget i hi]; exact ((hY i hi).2.shape (hT e ty2 hty2)).1
        have hcl : ∀ i j, i < len → (l.getD i .dead).cell j = (Y i).getD j .dead := fun i j hi => by
          rw [hget i hi, V.cell, ((hY i hi).2.shape (hT e ty2 hty2)).2]
        have hw0 : ∀ i j, i < len → j < ty2.kinds.length → w.cell? ((a.add (i * ty2.kinds.length)).add j) = some ((C i).getD j undef) := fun i j hi hj => by
          obtain ⟨k1, k2⟩ := hY i hi
          obtain ⟨-, q2, q3⟩ := World.cells?_some k1
          have := q3 j (by omega)
          have hj' : j < (C i).length := by omega
          rw [List.getElem?_eq_getElem hj'] at this
          have e1 : (C i).getD j undef = (C i)[j] := by simp [List.getD, hj']
          rw [e1, ← this, hsz]
        have hspot : 0 < len → a.spot = none := fun h0 => by
          have := hw0 0 0 h0 hpos
          rw [Nat.zero_mul, add_zero', add_zero'] at this
          unfold World.cell? at this
          split at this
          · split at this
            · cases this
            · rename_i hn; simpa using hn
          · cases this
        have hw : ∀ i j, i < len → j < ty2.kinds.length → w.cell? ⟨a.block, a.off + i * ty2.kinds.length + j, none⟩ = some ((C i).getD j undef) ∧ a.block < w.heap.size := fun i j hi hj => by
          have := hw0 i j hi hj
          rw [add_plain (hspot (by omega)), add_plain rfl] at this
          exact ⟨this, World.block_lt_of_cell? (w := w) (a := ⟨a.block, a.off + i * ty2.kinds.length + j, none⟩) (h := this)⟩
        refine ⟨[.inl e l], hty, CellsIs.one ?_ ?_⟩
        · have := Rp.inl (tab := tab) (w := w) (ok := (· < w.heap.size)) e l ty2 (some a) cap a.block a.off (fun i j => (C i).getD j undef) hty2 (by omega) (fun hne => ?_) hsh (fun i j hi hj => ?_) (fun i j hi hj => ?_)
          · rw [hll] at this; exact this
          · have h0 : 0 < len := by rw [← hll]; exact List.length_pos_iff.2 hne
            refine ⟨?_, (hw 0 0 h0 hpos).2⟩
            have := hspot h0
            cases a; simp_all
          · rw [hll] at hi
            exact (hw i j hi hj).1
          · rw [hll] at hi
            rw [hcl i j hi]
            exact (hY i hi).2.2.2.1 j hj
        · refine .sl e ty2 l hty2 (by unfold maxLen at hcm; omega) hsh fun i j hi hj => ?_
          rw [hll] at hi
          rw [hcl i j hi]
          exact (hY i hi).2.2.2.2 j hj
      all_goals first | (cases h; done) | simp_all
    · rename_i fs hu
      simp only [Bool.and_eq_true, decide_eq_true_eq] at h1
      obtain ⟨ha, hf, hk⟩ := h1
      rw [hu] at h
      split at h
      case h_9 fs' heq =>
        cases heq
        split at h
        case isFalse => cases h
        rename_i hcl
        obtain ⟨xs, hx, -⟩ := Option.map_eq_some_iff.1 h
        obtain ⟨ys, hys⟩ := fields_read ih _ fs.toList 0 xs hf hx
        rw [← hk, List.drop_zero, List.take_of_length_le (by omega)] at hys
        exact ⟨ys, hty, hys⟩
      all_goals first | (cases h; done) | simp_all
    · cases h1
theorem arg_read (hT : Zu P tab) {R : List TypeId} (hR : readB P tab R = true) {t : TypeId} (ht : t ∈ R) {v : Value} {d : DataW H} {ps : List MemPlace} (hv : Value.okWide P w .any 0 t v) (h : DataW.Trod enc P w 0 sp held t v d ps) :
    ∃ x, WtT tab t x ∧ Rp tab w (· < w.heap.size) x v := by
  obtain ⟨n, hn⟩ := h
  obtain ⟨ty, ys, e1, e2⟩ := cells_read hT hR n t ht _ _ hn
  have hty := hT t ty e1
  obtain ⟨s1, s2⟩ := e2.shape hty
  refine ⟨Eng.mk ty.agg ys, ⟨ty, e1, s1, fun j hj => by rw [V.cell, s2]; exact e2.2.2.2 j hj⟩, ?_⟩
  cases ha : ty.agg with
  | true =>
    obtain ⟨fs, hu, -⟩ := hty.agg ha
    unfold Value.okWide at hv
    rw [hu] at hv
    obtain ⟨cs, rfl, -⟩ := hv
    have hl := e2.2.1
    have : Rp tab w (· < w.heap.size) (.agg ys) (.agg cs.toList.toArray) := .agg ys cs.toList (by
      have : cs.toList.length = ty.kinds.length := hl
      rw [this, e2.1]) fun j hj => e2.2.2.1 j (by rw [← e2.1]; exact hj)
    simpa [Eng.mk] using this
  | false =>
    obtain ⟨h1, -, dd, hu, hns, hna⟩ := hty.flat ha
    have hone : v.cells = #[v] := by
      cases v with
      | agg cs =>
        exfalso
        unfold Value.okWide at hv
        rw [hu] at hv
        have hv : Cell.okWide P w .any 0 t (.agg cs) := by
          cases dd <;> first | exact hv | exact absurd rfl (hns _) | exact absurd rfl (hna _ _)
        unfold Cell.okWide at hv
        rw [hu] at hv
        cases dd <;> first | exact hv | (simp [Cell.ok, hu] at hv)
      | _ => rfl
    have h0 := e2.2.2.1 0 (by omega)
    have hyl := e2.1
    obtain ⟨y, rfl⟩ : ∃ y, ys = [y] := by
      match ys, hyl with
      | [y], _ => exact ⟨y, rfl⟩
      | [], h => simp at h; omega
      | _ :: _ :: _, h => simp at h; omega
    rw [hone] at h0
    simpa [Eng.mk] using h0
inductive WtAll (tab : Tab) : List TypeId → List V → Prop where
  | nil : WtAll tab [] []
  | cons {t : TypeId} {ts : List TypeId} {x : V} {xs : List V} : WtT tab t x → WtAll tab ts xs → WtAll tab (t :: ts) (x :: xs)
theorem args_read (hT : Zu P tab) {R : List TypeId} (hR : readB P tab R = true) : ∀ {ts : List TypeId} {vs : List Value} {ds : List (DataW H)} {ps : List MemPlace}, (∀ t ∈ ts, t ∈ R) →
    (∀ (j : Nat) t v, ts[j]? = some t → vs[j]? = some v → Value.okWide P w .any 0 t v) → DataW.TrodAll enc P w 0 sp held ts vs ds ps →
    ∃ xs, WtAll tab ts xs ∧ RqL (Rq2 tab w (· < w.heap.size)) xs vs [] []
  | [], vs, ds, ps, _, _, h => by
    obtain ⟨rfl, rfl, rfl⟩ := trodAll_nil h
    exact ⟨[], .nil, .nil⟩
  | t :: ts, vs, ds, ps, hR', hv, h => by
    obtain ⟨v, vs1, d, ds1, a, b, rfl, rfl, rfl, h1, h2⟩ := trodAll_cons h
    obtain ⟨x, hx, hr⟩ := arg_read hT hR (hR' t (by simp)) (hv 0 t v rfl rfl) h1
    obtain ⟨xs, hxs, hrs⟩ := args_read hT hR (fun t ht => hR' t (by simp [ht])) (fun j t v h3 h4 => hv (j + 1) t v (by simpa using h3) (by simpa using h4)) h2
    exact ⟨x :: xs, .cons hx hxs, .cons (t := []) (n := []) (.one (.tree hr)) hrs⟩
end
section
variable {H : Type} {enc : TypeId × Value → H} {P : Program} {tab : Tab} {W W' : World}
theorem frozen_of (hk : KeptBut [] W W') {a : Addr} (h : a.block < W.heap.size) : W'.frozen? a = W.frozen? a := by
  unfold World.frozen?
  rw [hk.block a.block h (by simp)]
theorem same_of (hk : KeptBut [] W W') {p : MemPlace} (h : p.block < W.heap.size) : W.sameAt W' p := by
  cases p with
  | cell b off =>
    show W'.cell? _ = W.cell? _
    unfold World.cell?
    rw [hk.block b h (by simp)]
  | map b => exact hk.block b h (by simp)
theorem kept_of (hk : KeptBut [] W W') (may : MemPlace → Prop) : W.keptBut W' may := by
  refine ⟨hk.os, hk.output, fun i hi => ?_⟩
  rw [hk.block i hi (by simp)]
  split
  · rename_i c t fr c' t' fr' h1 h2
    rw [h1] at h2; cases h2
    exact ⟨rfl, rfl, rfl, fun _ _ => rfl⟩
  · rename_i es clock es' clock' h1 h2
    rw [h1] at h2; cases h2
    exact .inr ⟨rfl, rfl⟩
  · rfl
theorem trodAll_stays {T : TypeId → Prop} (K : Kids P T) (hz : ∀ {t e : TypeId}, T t → P.underlying t = some (.slice e) → 0 < P.cellsOf e) {sp' : Nat → Bool} :
    ∀ {ts : List TypeId} {vs : List Value} {ds : List (DataW H)} {ps : List MemPlace}, (∀ t ∈ ts, T t) → DataW.TrodAll enc P W 0 (fun _ => true) true ts vs ds ps → (∀ p ∈ ps, W.sameAt W' p) → (∀ p ∈ ps, sp' p.block = true) → DataW.TrodAll enc P W' 0 sp' true ts vs ds ps
  | [], [], [], _, _, h, _, _ => h
  | t :: _, _ :: _, _ :: _, _, hT, ⟨p, q, ⟨n, h1⟩, h2, e⟩, hs, hp => ⟨p, q, ⟨n, DataW.trod_stays K hz (fun h => by cases h) (hT t (by simp)) h1 (fun x hx => hs x (by rw [e]; exact List.mem_append_left _ hx)) (fun x hx => hp x (by rw [e]; exact List.mem_append_left _ hx))⟩,
      trodAll_stays K hz (fun t ht => hT t (by simp [ht])) h2 (fun x hx => hs x (by rw [e]; exact List.mem_append_right _ hx)) (fun x hx => hp x (by rw [e]; exact List.mem_append_right _ hx)), e⟩
theorem post_of_old {f : Func} {s : ChangeSpec} {apart fresh handsOn again : Bool} {args : Array Value} {v : Value} {ds gs : List (DataW H)} {before pa pv : List MemPlace}
    (hW : DataW.Whole enc P f.params.toList s.vars apart W args.toList ds gs before)
    (hres : ∀ (b : Nat) (sp : Nat → Bool) (hd : Bool), DataW.TrodAll enc P W' b sp hd f.resultTypes.toList (v.resultList f.resultTypes.size) (s.fn H (ds ++ gs)).results [])
    (hargs : ∀ sp : Nat → Bool, (∀ p ∈ before, sp p.block = true) → DataW.TrodAll enc P W' 0 sp true f.params.toList args.toList (s.fn H (ds ++ gs)).args pa)
    (hvars : ∀ sp : Nat → Bool, (∀ p ∈ before, sp p.block = true) → DataW.TrodVars enc P W' sp s.vars (s.fn H (ds ++ gs)).vars pv)
    (hps : before = pa ++ pv) (hk : W.keptBut W' (· ∈ before)) (hfz : ∀ a : Addr, a.block < W.heap.size → W'.frozen? a = W.frozen? a)
    (hok : ∀ (j : Nat) (t : TypeId) (r : Value), f.resultTypes[j]? = some t → (v.resultList f.resultTypes.size)[j]? = some r → Value.okWide P W' .any 0 t r) :
    s.post enc P f apart fresh handsOn again W args v W' := by
  have hlt := fun p hp => hW.lt p hp
  have hold : ∀ p ∈ before, (fun b => decide (b < W.heap.size)) p.block = true := fun p hp => by simpa using hW.lt p hp
  refine ⟨ds, gs, before, [], pa, pv, hW, hres _ _ _, hargs _ hold, hvars _ hold, World.keptBut_mono (fun p hp => ⟨hp, ?_⟩) hk, fun _ => ?_⟩
  · rw [hps, List.mem_append] at hp
    exact Or.inr hp
  · obtain ⟨_, _, _, _, _, hz, hn⟩ := hW
    refine ⟨hok, _, _, ([] ++ pa) ++ pv, ⟨[] ++ pa, pv, trodAll_append (hargs _ (fun _ _ => rfl)) (hres _ _ _), hvars _ (fun _ _ => rfl), rfl, ?_, ?_⟩, ?_⟩
    · intro b off hp
      have hp' : MemPlace.cell b off ∈ before := by rw [hps]; simpa using hp
      rw [hfz ⟨b, off, none⟩ (hlt _ hp')]
      exact hz b off hp'
    · intro ha
      have := hn ha
      rw [hps] at this
      simpa using this
    · intro p hp _
      rw [hps]
      simpa using hp
theorem law_contract (hT : Zu P tab) {R : List TypeId} (hR : readB P tab R = true) (hl : laidOutB P = true) (hm : mapsRowed P = true) (hz : ((List.range P.types.size).all fun t => match P.underlying t with | some (.slice e) => decide (0 < P.cellsOf e) | _ => true) = true)
    {f : FuncId} {fn : Func} {s : ChangeSpec} {apart fresh handsOn again : Bool} (hvars : s.vars = []) (hpar : (fn.params.toList.all fun t => R.contains t && decide (t < P.types.size)) = true)
    {tb : TypeId} (hres : fn.resultTypes = #[tb]) (htb : P.underlying tb = some .bool) (hsp : ∀ (ds : List (DataW H)), ds.length = fn.params.size → s.fn H ds = { results := [.lit (.bool true)], args := ds })
    (hS : ∀ xs, WtAll tab fn.params.toList xs → SumOk P tab f xs (.bool true, []))
    (args : Array Value) (ds gs : List (DataW H)) (before : List MemPlace)
    (hval : ∀ (j : Nat) t v, fn.params[j]? = some t → args[j]? = some v → Value.okWide P W .any 0 t v)
    (hW : DataW.Whole enc P fn.params.toList s.vars apart W args.toList ds gs before) :
    Calls P f args W fun e W' => ∃ v, e = .returned v ∧ s.post enc P fn apart fresh handsOn again W args v W' := by
  have hpar' : ∀ t ∈ fn.params.toList, t ∈ R ∧ t < P.types.size := fun t ht => by
    have := List.all_eq_true.1 hpar t ht
    simpa using this
  have hW' := hW
  obtain ⟨p, q, hA, hV, hb, hfz, hnd⟩ := hW'
  rw [hvars] at hV
  obtain ⟨rfl, rfl⟩ := trodVars_none hV
  have hA' : DataW.TrodAll enc P W 0 (fun _ => true) true fn.params.toList args.toList ds p := hA
  obtain ⟨xs, hxs, hrq⟩ := args_read hT hR (fun t ht => (hpar' t ht).1) (fun j t v h1 h2 => hval j t v (by simpa using h1) (by simpa using h2)) hA'
  have hlen : ds.length = fn.params.size := by
    have : ∀ {ts : List TypeId} {vs : List Value} {ds : List (DataW H)} {ps : List MemPlace}, DataW.TrodAll enc P W 0 (fun _ => true) true ts vs ds ps → ds.length = ts.length := by
      intro ts
      induction ts with
      | nil => intro vs ds ps h; obtain ⟨rfl, rfl, rfl⟩ := trodAll_nil h; rfl
      | cons t ts ih =>
        intro vs ds ps h
        obtain ⟨v, vs1, d, ds1, a, b, rfl, rfl, rfl, h1, h2⟩ := trodAll_cons h
        simp [ih h2]
    simpa using this hA'
  have hcall := hS xs hxs W (· < W.heap.size) args.toList [] [] hrq (by simp) (fun g hg => ⟨hg, by simp⟩) (by simp)
  refine Calls.mono hcall ?_
  rintro e W' ⟨val, rfl, rt, rn, ot, on, r1, r2, h1, h2, h3, h4, hk⟩
  have hval' : val = .bool true := by
    cases r1 with | one r1 => cases r1 with | one r1 => cases r1 with | tree r1 => cases r1; rfl
  subst hval'
  refine ⟨_, rfl, ?_⟩
  have hlt : ∀ x ∈ before, x.block < W.heap.size := fun x hx => hW.lt x hx
  refine post_of_old (pa := before) (pv := []) hW (fun b sp hd => ?_) (fun sp hsp' => ?_) (fun sp _ => ?_) (by simp) (kept_of hk _) (fun a ha => frozen_of hk ha) (fun j t r hj hr => ?_)
  · rw [List.append_nil, hsp ds hlen, hres]
    refine ⟨[], [], ⟨1, ?_⟩, rfl, rfl⟩
    show DataW.trod enc P W' b sp hd 1 tb [.bool true] = _
    unfold DataW.trod
    rw [htb]
  · rw [List.append_nil, hsp ds hlen]
    rw [hb, List.append_nil] at hsp' hlt ⊢
    exact trodAll_stays (kids_rows hl hm) (fun {t e} h1 h2 => slices_full_of P hz t e h1 h2) (fun t ht => (hpar' t ht).2) hA' (fun x hx => same_of hk (hlt x hx)) hsp'
  · rw [List.append_nil, hsp ds hlen, hvars]
    exact rfl
  · rw [hres] at hj hr
    have hj0 : j = 0 ∧ t = tb := by
      cases j with
      | zero => simpa using hj.symm
      | succ j => simp at hj
    obtain ⟨rfl, rfl⟩ := hj0
    have : r = .bool true := by
      simpa [Value.resultList] using hr.symm
    subst this
    simp [Value.okWide, htb, Cell.okWide, Cell.ok]
end
end Go.Eng
namespace Go.Eng
section
variable {tab : Tab} {T : TypeId} {x : V}
theorem WtT.cell (h : WtT tab T x) (j : Nat) {k : Ck} (hk : ((tab T).bind fun ty => ty.kinds[j]?) = some k) : Wt tab k (x.cell j) := by
  obtain ⟨ty, h1, h2, h3⟩ := h
  rw [h1, Option.bind_some] at hk
  have hj := (List.getElem?_eq_some_iff.1 hk).1
  have := h3 j hj
  rwa [show ty.kinds.getD j .other = k from by simp [List.getD, hk]] at this
theorem WtT.eta (h : WtT tab T x) {ty : Ty} (ht : tab T = some ty) : x = Eng.mk ty.agg (Z6 ty.kinds x 0) := by
  obtain ⟨ty', h1, h2, h3⟩ := h
  obtain rfl := Option.some.inj (ht.symm.trans h1)
  rw [ZdG h2, mk_cells h2]
theorem wt_u8 {v : V} (h : Wt tab (.int .u8) v) : 0 ≤ v.I ∧ v.I ≤ 255 := by
  cases h with | int k n h =>
  simp [Lit.wf, IntKind.min, IntKind.max, IntKind.signed, IntKind.bits] at h
  exact h
theorem wt_sl {v : V} {e : TypeId} (h : Wt tab (.sl e) v) {w : V → Prop} (hw : ∀ y, WtT tab e y → w y) : LW w v.L := by
  cases h with | sl _ ty l h1 h2 h3 h4 =>
  refine ⟨h2, fun y hy => hw y ?_⟩
  have hy : y ∈ l := hy
  obtain ⟨i, hi, rfl⟩ := List.getElem_of_mem hy
  have e1 : l.getD i .dead = l[i] := by simp [List.getD, hi]
  exact ⟨ty, h1, by rw [← e1]; exact h3 i hi, fun j hj => by rw [← e1]; exact h4 i j hi hj⟩
theorem WtAll.one {t : TypeId} {xs : List V} (h : WtAll tab [t] xs) : ∃ a, xs = [a] ∧ WtT tab t a := by
  cases h with | cons h1 h2 => cases h2; exact ⟨_, rfl, h1⟩
end
end Go.Eng
namespace Go.Eng
variable {P : Program}
theorem Zcf (w : World) (dT sT ty elem : TypeId) (sz : Nat) (g o dLen dCap : Nat) (a : Addr) (sLen sCap : Nat) (cur : Array Value) (t : TypeId) (cs : List Value)
    (hu : P.underlying dT = some (.slice elem)) (hs : (P.info? elem).map (·.size) = some sz)
    (hg : w.heap[g]? = some (.cells cur t (0, 0))) (hn : cs.length = Nat.min sLen dLen * sz)
    (hsrc : ∀ j v, cs[j]? = some v → w.cell? (a.add j) = some v) (hfit : o + cs.length ≤ cur.size) (h1 : ∀ v ∈ cs, v.oneCell' = true) :
    (Builtin.copy_ #[dT, sT] ty #[.slice (some ⟨g, o, none⟩) dLen dCap, .slice (some a) sLen sCap]).run P w =
      .ok (goInt (Nat.min sLen dLen)) (w.setRow g (cur.toList.take o ++ cs ++ cur.toList.drop (o + cs.length)).toArray) := by
  have hl := run_loadCells_list (P := P) w a cs hsrc
  have hst := run_storeCells_at P g o t cs 0 cur w hg (by simpa using hfit) h1
  cases hq : P.info? elem with
  | none => simp [hq] at hs
  | some i =>
    have hi : i.size = sz := by simpa [hq] using hs
    simp [Builtin.copy_, run_underlying hu, Builtin.lenOf, Builtin.firstCells, sizeOf, typeInfo, hq, hi, ← hn, hl, hst]
theorem ZdJ (w : World) (t e ty : TypeId) (z : Value) (sz : Nat) (hu : P.underlying t = some (.slice e)) (hv : ∀ w, (zeroValue e).run P w = .ok z w) (hz : z.cells.size = sz) (h1 : ∀ v ∈ z.cells, v.oneCell' = true) (hsz : 0 < sz)
    (g o n : Nat) (hn : 0 < n) (cur : Array Value) (T : TypeId) (hg : w.heap[g]? = some (.cells cur T (0, 0))) (hfit : o + n * sz ≤ cur.size) :
    ∃ tl : List Value, tl.length = n * sz ∧ ∀ c, (Builtin.clear_ #[t] ty #[.slice (some ⟨g, o, none⟩) n c]).run P w = .ok (.tuple #[]) (w.setRow g (cur.toList.take o ++ tl ++ cur.toList.drop (o + tl.length)).toArray) := by
  refine ⟨(Builtin.zeroCells z.cells n).toList, by rw [Array.length_toList, size_zeroCells, hz], fun c => ?_⟩
  have hl : (Builtin.zeroCells z.cells n).toList.length = n * sz := by rw [Array.length_toList, size_zeroCells, hz]
  have hst := run_storeCells_at P g o T (Builtin.zeroCells z.cells n).toList 0 cur w hg (by rw [hl]; simpa using hfit) (fun v hv' => by
    simp only [Builtin.zeroCells, Array.toList_map, List.mem_map] at hv'
    obtain ⟨k, hk, rfl⟩ := hv'
    have hlt : k % z.cells.size < z.cells.size := Nat.mod_lt _ (by omega)
    rw [getElem!_pos z.cells _ hlt]
    exact h1 _ (Array.getElem_mem hlt))
  simp only [Nat.add_zero] at hst
  obtain ⟨m, rfl⟩ : ∃ m, n = m + 1 := ⟨n - 1, by omega⟩
  simp [Builtin.clear_, run_underlying hu, hv, hst]
section
variable {w : World} {ops : Array Oper} {rest : List Oper} {o : Oper} {a : Act} {Q : Exit → Act → World → Prop}
theorem Zdb (hgd : o.guard = none) (d s : Operand) (t t' : TypeId)
    (ho : o.op = .call { callee := .builtin .copy, args := #[d, s], argTypes := #[t, t'] }) (v u : Value) (hd : a.eval d = v) (hs : a.eval s = u) {v' : Value} {w' : World}
    (hr : (Builtin.copy_ #[t, t'] o.type #[v, u]).run P w = .ok v' w') (h : wpList P ops Q rest (a.put o.dst v') w') : wpList P ops Q (o :: rest) a w :=
  wpList_plain hgd fun _ hK => by
    unfold Oper.wp execOp
    simp only [ho, resolve, invoke, builtin, Sem.run_bind, Sem.run_pure, Result.andThen_ok, List.map_toArray, List.map_cons, List.map_nil, hd, hs, hr]
    exact hK _ _ h
theorem Zae (hgd : o.guard = none) (d : Operand) (t : TypeId)
    (ho : o.op = .call { callee := .builtin .clear, args := #[d], argTypes := #[t] }) (v : Value) (hd : a.eval d = v) {v' : Value} {w' : World}
    (hr : (Builtin.clear_ #[t] o.type #[v]).run P w = .ok v' w') (h : wpList P ops Q rest (a.put o.dst v') w') : wpList P ops Q (o :: rest) a w :=
  wpList_plain hgd fun _ hK => by
    unfold Oper.wp execOp
    simp only [ho, resolve, invoke, builtin, Sem.run_bind, Sem.run_pure, Result.andThen_ok, List.map_toArray, List.map_cons, List.map_nil, hd, hr]
    exact hK _ _ h
theorem ZdK {K : Act → World → Prop} {E : Prop}
    (hg : o.guard = none) (d x : Operand) (dT sT : TypeId) (hop : o.op = Op.call { callee := Callee.builtin Builtin.copy, args := #[d, x], argTypes := #[dT, sT] })
    (v u : Value) (hd : a.eval d = v) (hx : a.eval x = u) {v' : Value} {w' : World} (hr : (Builtin.copy_ #[dT, sT] o.type #[v, u]).run P w = .ok v' w') (hK : K (a.put o.dst v') w') :
    if Region.wanted o (yielded ops a.tmps) = true then Oper.wp P o a w K Q else E := by
  have hw : Region.wanted o (yielded ops a.tmps) = true := by simp [Region.wanted, hg]
  rw [if_pos hw]
  unfold Oper.wp
  simp [execOp, hop, resolve, invoke, builtin, hd, hx, hr, Result.andThen]
  exact hK
theorem Zdc {K : Act → World → Prop} {E : Prop}
    (hg : o.guard = none) (d x : Operand) (dT sT : TypeId) (hop : o.op = Op.call { callee := Callee.builtin Builtin.append, args := #[d, x], argTypes := #[dT, sT] })
    (v u : Value) (hd : a.eval d = v) (hx : a.eval x = u) {v' : Value} {w' : World} (hr : (Builtin.append_ #[dT, sT] o.type #[v, u]).run P w = .ok v' w') (hK : K (a.put o.dst v') w') :
    if Region.wanted o (yielded ops a.tmps) = true then Oper.wp P o a w K Q else E := by
  have hw : Region.wanted o (yielded ops a.tmps) = true := by simp [Region.wanted, hg]
  rw [if_pos hw]
  unfold Oper.wp
  simp [execOp, hop, resolve, invoke, builtin, hd, hx, hr, Result.andThen]
  exact hK
end
def OneL (l : List Value) : Prop := ∀ v ∈ l, v.oneCell' = true
def DelOk (P : Program) (f : FuncId) (T : TypeId) (sz : Nat) : Prop :=
  ∀ (g n cap i j : Nat) (cur : Array Value) (w : World), w.heap[g]? = some (.cells cur T (0, 0)) → cur.size = cap * sz → n ≤ cap → cap ≤ maxLen → OneL (cur.toList.take (n * sz)) → i < j → j ≤ n →
    Calls P f #[.slice (some ⟨g, 0, none⟩) n cap, .int .i64 i, .int .i64 j] w fun e w' => e = .returned (.slice (some ⟨g, 0, none⟩) (n - (j - i)) cap) ∧
      ∃ cur' : Array Value, w'.heap[g]? = some (.cells cur' T (0, 0)) ∧ cur'.size = cap * sz ∧ cur'.toList.take ((n - (j - i)) * sz) = (cur.toList.take (n * sz)).take (i * sz) ++ (cur.toList.take (n * sz)).drop (j * sz) ∧ KeptBut [g] w w'
def DelSame (P : Program) (f : FuncId) : Prop :=
  ∀ (a : Option Addr) (n cap i : Nat) (w : World), i ≤ n → n ≤ cap → cap ≤ maxLen → Calls P f #[.slice a n cap, .int .i64 i, .int .i64 i] w fun e w' => e = .returned (.slice a n cap) ∧ KeptBut [] w w'
end Go.Eng
namespace Go.Eng
variable {P : Program}
theorem ZaN {w : World} {g o m : Nat} {cur : Array Value} {T : TypeId} (hg : w.heap[g]? = some (.cells cur T (0, 0))) (h : o + m ≤ cur.size) :
    ∀ j v, ((cur.toList.drop o).take m)[j]? = some v → w.cell? ((⟨g, o, none⟩ : Addr).add j) = some v := by
  intro j v hv
  rw [List.getElem?_take] at hv
  split at hv
  · rename_i hj
    rw [List.getElem?_drop] at hv
    rw [Addr.add_none]
    have hlt := (List.getElem?_eq_some_iff.1 hv).1
    have : o + j < cur.size := by simpa using hlt
    have e := (List.getElem?_eq_some_iff.1 hv).2
    simp [World.cell?, hg, this]
    simpa using e
  · cases hv
def InsOk (P : Program) (f : FuncId) (T : TypeId) (sz bytes : Nat) : Prop :=
  ∀ (w : World) (v v2 : Value) (n i : Nat) (xs ys : List Value), RowIs w T sz n v xs → RowIs w T sz 1 v2 ys → (∀ g ∈ Zn v, g ∉ Zn v2) → OneL xs → OneL ys → i ≤ n → (n + 1) * bytes ≤ 140737488355328 →
    n + 1 ≤ 9223372036854775807 → Calls P f #[v, .int .i64 i, v2] w fun e w' => ∃ v', e = .returned v' ∧ RowIs w' T sz (n + 1) v' (xs.take (i * sz) ++ ys ++ xs.drop (i * sz)) ∧ KeptBut (Zn v) w w' ∧ ∀ g ∈ Zn v', g ∈ Zn v ∨ w.heap.size ≤ g
end Go.Eng
namespace Go.Eng
theorem ins_list {α : Type} {cur y tl c1 c2 : List α} {a s : Nat} (ha : a + s ≤ cur.length) (hy : y.length = s) (h1 : c1 = cur.take (a + s) ++ tl ++ cur.drop (a + s + tl.length)) (h2 : c2 = c1.take a ++ y ++ c1.drop (a + s)) :
    c2.take (a + s + tl.length) = cur.take a ++ y ++ tl := by
  have e1 : c1.take a = cur.take a := by
    rw [h1, List.append_assoc, List.take_append_of_le_length (by simp; omega), List.take_take, Nat.min_eq_left (by omega)]
  have e2 : c1.drop (a + s) = tl ++ cur.drop (a + s + tl.length) := by
    rw [h1, List.append_assoc]; exact List.drop_left' (by simp; omega)
  rw [h2, e1, e2, ← List.append_assoc]
  exact List.take_left' (by simp; omega)
theorem mid_eq {α : Type} (l : List α) (a b : Nat) : (l.drop a).take (b - a) = (l.take b).drop a := by rw [List.drop_take]
end Go.Eng
namespace Go.Eng
theorem KeptBut.fresh {w w' : World} {F : List Nat} (h : KeptBut F w w') (hF : ∀ g ∈ F, w.heap.size ≤ g) : KeptBut [] w w' :=
  ⟨h.os, h.tape, h.output, h.size, fun g hg _ => h.block g hg fun hm => by have := hF g hm; omega⟩
theorem ins_list2 {α : Type} {row y tl c2 c3 : List α} {a s : Nat} (ha : a + s + tl.length ≤ row.length) (hy : y.length = s) (h2 : c2 = row.take a ++ y ++ row.drop (a + s)) (h3 : c3 = c2.take (a + s) ++ tl ++ c2.drop (a + s + tl.length)) :
    c3.take (a + s + tl.length) = row.take a ++ y ++ tl := by
  have e1 : c2.take (a + s) = row.take a ++ y := by rw [h2]; exact List.take_left' (by simp; omega)
  rw [h3, e1]
  exact List.take_left' (by simp; omega)
end Go.Eng
namespace Go.Eng
variable {P : Program}
def InsRoom (P : Program) (f : FuncId) (T : TypeId) (sz : Nat) : Prop :=
  ∀ (w : World) (g n cap i h caph : Nat) (cur curh : Array Value), w.heap[g]? = some (.cells cur T (0, 0)) → cur.size = cap * sz → cap ≤ maxLen → OneL (cur.toList.take (n * sz)) →
    w.heap[h]? = some (.cells curh T (0, 0)) → curh.size = caph * sz → 1 ≤ caph → h ≠ g → OneL (curh.toList.take sz) → i < n → n + 1 ≤ cap →
    Calls P f #[.slice (some ⟨g, 0, none⟩) n cap, .int .i64 i, .slice (some ⟨h, 0, none⟩) 1 caph] w fun e w' => e = .returned (.slice (some ⟨g, 0, none⟩) (n + 1) cap) ∧
      ∃ cur' : Array Value, w'.heap[g]? = some (.cells cur' T (0, 0)) ∧ cur'.size = cap * sz ∧ cur'.toList.take ((n + 1) * sz) = (cur.toList.take (n * sz)).take (i * sz) ++ curh.toList.take sz ++ (cur.toList.take (n * sz)).drop (i * sz) ∧ KeptBut [g] w w'
def InsGrow (P : Program) (f : FuncId) (T : TypeId) (sz bytes : Nat) : Prop :=
  ∀ (w : World) (g n cap i h caph : Nat) (cur curh : Array Value), w.heap[g]? = some (.cells cur T (0, 0)) → cur.size = cap * sz → cap ≤ maxLen → OneL (cur.toList.take (n * sz)) →
    w.heap[h]? = some (.cells curh T (0, 0)) → curh.size = caph * sz → 1 ≤ caph → OneL (curh.toList.take sz) → i < n → n ≤ cap → cap < n + 1 → (n + 1) * bytes ≤ 140737488355328 →
    Calls P f #[.slice (some ⟨g, 0, none⟩) n cap, .int .i64 i, .slice (some ⟨h, 0, none⟩) 1 caph] w fun e w' => ∃ cap', e = .returned (.slice (some ⟨w.heap.size, 0, none⟩) (n + 1) cap') ∧ n + 1 ≤ cap' ∧ cap' ≤ maxLen ∧
      ∃ cur' : Array Value, w'.heap[w.heap.size]? = some (.cells cur' T (0, 0)) ∧ cur'.size = cap' * sz ∧ cur'.toList.take ((n + 1) * sz) = (cur.toList.take (n * sz)).take (i * sz) ++ curh.toList.take sz ++ (cur.toList.take (n * sz)).drop (i * sz) ∧ KeptBut [] w w'
def InsEnd (P : Program) (f : FuncId) (T : TypeId) (sz bytes : Nat) : Prop :=
  ∀ (w : World) (v v2 : Value) (n : Nat) (xs ys : List Value), RowIs w T sz n v xs → RowIs w T sz 1 v2 ys → OneL ys → (n + 1) * bytes ≤ 140737488355328 → n + 1 ≤ 9223372036854775807 →
    Calls P f #[v, .int .i64 n, v2] w fun e w' => ∃ v', e = .returned v' ∧ RowIs w' T sz (n + 1) v' (xs ++ ys) ∧ KeptBut (Zn v) w w' ∧ ∀ g ∈ Zn v', g ∈ Zn v ∨ g = w.heap.size
theorem rowIs_some {w : World} {T : TypeId} {sz n : Nat} {g cap : Nat} {cur : Array Value} {xs : List Value} (hc : 0 < cap) (hg : w.heap[g]? = some (.cells cur T (0, 0))) (hn : n ≤ cap) (hm : cap ≤ maxLen) (hs : cur.size = cap * sz) (hx : cur.toList.take (n * sz) = xs) :
    RowIs w T sz n (.slice (some ⟨g, 0, none⟩) n cap) xs :=
  ⟨by rw [← hx, List.length_take, Array.length_toList, hs]; exact Nat.min_eq_left (Nat.mul_le_mul_right _ hn), .inr ⟨g, cap, cur, rfl, hc, hg, hn, hm, hs, hx⟩⟩
theorem Zcg (g n cap : Nat) (hc : 0 < cap) : Zn (.slice (some ⟨g, 0, none⟩) n cap) = [g] := by
  obtain ⟨c, rfl⟩ : ∃ c, cap = c + 1 := ⟨cap - 1, by omega⟩
  rfl
theorem ins_ok {f : FuncId} {T : TypeId} {sz bytes : Nat} (hR : InsRoom P f T sz) (hG : InsGrow P f T sz bytes) (hE : InsEnd P f T sz bytes) : InsOk P f T sz bytes := by
  intro w v v2 n i xs ys hr hr2 hd h1 h1h hi hbig h63
  by_cases hin : i = n
  · subst hin
    refine (hE w v v2 i xs ys hr hr2 h1h hbig h63).mono ?_
    rintro e w' ⟨v', rfl, k1, k2, k3⟩
    refine ⟨v', rfl, ?_, k2, fun g hg => ?_⟩
    · rw [List.take_of_length_le (by rw [hr.1]; exact Nat.le_refl _), List.drop_of_length_le (by rw [hr.1]; exact Nat.le_refl _), List.append_nil]; exact k1
    · rcases k3 g hg with h | h
      · exact .inl h
      · exact .inr (by omega)
  · have hlt : i < n := by omega
    rcases hr.2 with ⟨a, rfl, h0⟩ | ⟨g, cap, cur, rfl, hc, hg, hn, hm, hs, hx⟩
    · omega
    rcases hr2.2 with ⟨a, rfl, h0⟩ | ⟨h, caph, curh, rfl, hch, hh, hn2, hm2, hs2, hx2⟩
    · omega
    have hne : h ≠ g := fun e => hd g (by rw [Zcg _ _ _ hc]; simp) (by rw [Zcg _ _ _ hch, e]; simp)
    rw [Nat.one_mul] at hx2
    subst hx; subst hx2
    by_cases hroom : n + 1 ≤ cap
    · refine (hR w g n cap i h caph cur curh hg hs hm h1 hh hs2 hn2 hne h1h hlt hroom).mono ?_
      rintro e w' ⟨rfl, cur', k1, k2, k3, k4⟩
      refine ⟨_, rfl, rowIs_some hc k1 hroom hm k2 k3, by rw [Zcg _ _ _ hc]; exact k4, fun g' hg' => .inl ?_⟩
      rw [Zcg _ _ _ hc] at hg' ⊢; exact hg'
    · refine (hG w g n cap i h caph cur curh hg hs hm h1 hh hs2 hn2 h1h hlt hn (by omega) hbig).mono ?_
      rintro e w' ⟨cap', rfl, k0, k0', cur', k1, k2, k3, k4⟩
      refine ⟨_, rfl, rowIs_some (by omega) k1 k0 k0' k2 k3, k4.mono (by simp), fun g' hg' => .inr ?_⟩
      rw [Zcg _ _ _ (by omega)] at hg'; simp at hg'; omega
section
variable {tab : Tab}
structure Els (tab : Tab) (w : World) (ok : Nat → Prop) (ty : Ty) (own : Bool) (l : List V) (xs : List Value) (F : Nat → Nat → List Nat) : Prop where
  len : xs.length = l.length * ty.kinds.length
  shape : ∀ i, i < l.length → Zbo ty (l.getD i .dead)
  yes : own = true → ∀ i j, i < l.length → j < ty.kinds.length → Ro tab w ((l.getD i .dead).cell j) (xs.getD (i * ty.kinds.length + j) undef) (F i j)
  no : own = false → (∀ i j, F i j = []) ∧ ∀ i j, i < l.length → j < ty.kinds.length → Rp tab w ok ((l.getD i .dead).cell j) (xs.getD (i * ty.kinds.length + j) undef)
theorem RowT.els {w : World} {ok : Nat → Prop} {T : TypeId} {own : Bool} {l : List V} {v : Value} {nest : List Nat} (h : RowT tab w ok T own l v nest) {ty : Ty} (ht : tab T = some ty) :
    ∃ xs F, RowIs w T ty.kinds.length l.length v xs ∧ Els tab w ok ty own l xs F ∧ nest = Zw l.length ty.kinds.length F := by
  obtain ⟨ty', xs, ht', hr, hs, he⟩ := h
  obtain rfl := Option.some.inj (ht.symm.trans ht')
  rcases he with ⟨ho, F, hn, he⟩ | ⟨ho, hn, he⟩
  · exact ⟨xs, F, hr, ⟨hr.1, hs, fun _ => he, fun h => by rw [ho] at h; cases h⟩, hn⟩
  · refine ⟨xs, fun _ _ => [], hr, ⟨hr.1, hs, fun h => by rw [ho] at h; (cases h), fun _ => ⟨fun _ _ => rfl, he⟩⟩, ?_⟩
    rw [hn]; simp [Zw]
theorem Els.row {w : World} {ok : Nat → Prop} {T : TypeId} {own : Bool} {l : List V} {v : Value} {ty : Ty} (ht : tab T = some ty) {xs : List Value} {F : Nat → Nat → List Nat} (hr : RowIs w T ty.kinds.length l.length v xs) (h : Els tab w ok ty own l xs F) :
    RowT tab w ok T own l v (Zw l.length ty.kinds.length F) := by
  refine ⟨ty, xs, ht, hr, h.shape, ?_⟩
  cases ho : own with
  | true => exact .inl ⟨rfl, F, rfl, h.yes ho⟩
  | false =>
    obtain ⟨h1, h2⟩ := h.no ho
    refine .inr ⟨rfl, ?_, h2⟩
    simp [Zw, h1]
theorem Els.keep {w w' : World} {ok ok' : Nat → Prop} {own : Bool} {l : List V} {ty : Ty} {xs : List Value} {F : Nat → Nat → List Nat} (h : Els tab w ok ty own l xs F) (hok : ∀ g, ok g → ok' g) (hw : ∀ g, ok g → w'.heap[g]? = w.heap[g]?)
    (hF : ∀ i j, i < l.length → j < ty.kinds.length → ∀ g ∈ F i j, w'.heap[g]? = w.heap[g]?) : Els tab w' ok' ty own l xs F :=
  ⟨h.len, h.shape, fun ho i j hi hj => (h.yes ho i j hi hj).keep (hF i j hi hj), fun ho => ⟨(h.no ho).1, fun i j hi hj => ((h.no ho).2 i j hi hj).keep hok hw⟩⟩
theorem Els.one {w : World} {ok : Nat → Prop} {own : Bool} {l : List V} {ty : Ty} {xs : List Value} {F : Nat → Nat → List Nat} (h : Els tab w ok ty own l xs F) : OneL xs := by
  intro v hv
  obtain ⟨k, hk, rfl⟩ := List.getElem_of_mem hv
  rw [h.len] at hk
  obtain ⟨h1, h2, h3⟩ := divmod_idx hk
  have e : xs.getD (k / ty.kinds.length * ty.kinds.length + k % ty.kinds.length) undef = xs[k] := by rw [h3]; simp [List.getD, h.len, hk]
  rw [← e]
  cases ho : own with
  | true => exact (h.yes ho _ _ h1 h2).oneCell
  | false => exact ((h.no ho).2 _ _ h1 h2).oneCell _ ((h.shape _ h1).2.2.2 _ h2)
theorem Els.pick {w : World} {ok : Nat → Prop} {own : Bool} {l : List V} {ty : Ty} {xs : List Value} {F : Nat → Nat → List Nat} (h : Els tab w ok ty own l xs F) (φ : Nat → Nat) {l' : List V} {xs' : List Value}
    (hlen : xs'.length = l'.length * ty.kinds.length) (hφ : ∀ k, k < l'.length → φ k < l.length) (hl : ∀ k, k < l'.length → l'.getD k .dead = l.getD (φ k) .dead)
    (hx : ∀ k c, k < l'.length → c < ty.kinds.length → xs'.getD (k * ty.kinds.length + c) undef = xs.getD (φ k * ty.kinds.length + c) undef) : Els tab w ok ty own l' xs' (fun k c => F (φ k) c) :=
  ⟨hlen, fun k hk => by rw [hl k hk]; exact h.shape _ (hφ k hk), fun ho k c hk hc => by rw [hl k hk, hx k c hk hc]; exact h.yes ho _ _ (hφ k hk) hc,
   fun ho => ⟨fun k c => (h.no ho).1 _ _, fun k c hk hc => by rw [hl k hk, hx k c hk hc]; exact (h.no ho).2 _ _ (hφ k hk) hc⟩⟩
theorem Els.append {w : World} {ok : Nat → Prop} {own : Bool} {l l' : List V} {ty : Ty} {xs xs' : List Value} {F F' : Nat → Nat → List Nat} (h : Els tab w ok ty own l xs F) (h' : Els tab w ok ty own l' xs' F') :
    Els tab w ok ty own (l ++ l') (xs ++ xs') (fun k c => if k < l.length then F k c else F' (k - l.length) c) := by
  have hg1 : ∀ k, k < l.length → (l ++ l').getD k .dead = l.getD k .dead := fun k hk => by simp only [List.getD, List.getElem?_append_left hk]
  have hg2 : ∀ k, ¬ k < l.length → (l ++ l').getD k .dead = l'.getD (k - l.length) .dead := fun k hk => by simp [List.getD, List.getElem?_append_right (Nat.le_of_not_lt hk)]
  have hx1 : ∀ k c, k < l.length → c < ty.kinds.length → (xs ++ xs').getD (k * ty.kinds.length + c) undef = xs.getD (k * ty.kinds.length + c) undef := fun k c hk hc => by
    have : k * ty.kinds.length + c < xs.length := by rw [h.len]; exact Zbi hk hc
    simp only [List.getD, List.getElem?_append_left this]
  have hx2 : ∀ k c, ¬ k < l.length → c < ty.kinds.length → (xs ++ xs').getD (k * ty.kinds.length + c) undef = xs'.getD ((k - l.length) * ty.kinds.length + c) undef := fun k c hk hc => by
    have e : l.length * ty.kinds.length ≤ k * ty.kinds.length := Nat.mul_le_mul_right _ (Nat.le_of_not_lt hk)
    have : xs.length ≤ k * ty.kinds.length + c := by rw [h.len]; omega
    simp only [List.getD, List.getElem?_append_right this]
    rw [h.len, Nat.sub_mul, show k * ty.kinds.length + c - l.length * ty.kinds.length = k * ty.kinds.length - l.length * ty.kinds.length + c from by omega]
  refine ⟨by simp [h.len, h'.len, Nat.add_mul], fun k hk => ?_, fun ho k c hk hc => ?_, fun ho => ⟨fun k c => ?_, fun k c hk hc => ?_⟩⟩
  · by_cases hk' : k < l.length
    · rw [hg1 k hk']; exact h.shape k hk'
    · rw [hg2 k hk']; exact h'.shape _ (by simp at hk; omega)
  · by_cases hk' : k < l.length
    · rw [hg1 k hk', hx1 k c hk' hc, if_pos hk']; exact h.yes ho k c hk' hc
    · rw [hg2 k hk', hx2 k c hk' hc, if_neg hk']; exact h'.yes ho _ c (by simp at hk; omega) hc
  · split
    · exact (h.no ho).1 _ _
    · exact (h'.no ho).1 _ _
  · by_cases hk' : k < l.length
    · rw [hg1 k hk', hx1 k c hk' hc]; exact (h.no ho).2 k c hk' hc
    · rw [hg2 k hk', hx2 k c hk' hc]; exact (h'.no ho).2 _ c (by simp at hk; omega) hc
theorem getD_take' {α : Type} {l : List α} {n i : Nat} {d : α} (h : i < n) : (l.take n).getD i d = l.getD i d := by simp [List.getD, h]
theorem getD_drop' {α : Type} {l : List α} {n i : Nat} {d : α} : (l.drop n).getD i d = l.getD (n + i) d := by simp [List.getD]
theorem Els.take {w : World} {ok : Nat → Prop} {own : Bool} {l : List V} {ty : Ty} {xs : List Value} {F : Nat → Nat → List Nat} (h : Els tab w ok ty own l xs F) {n : Nat} (hn : n ≤ l.length) : Els tab w ok ty own (l.take n) (xs.take (n * ty.kinds.length)) F := by
  refine h.pick id (by rw [List.length_take, List.length_take, h.len, Nat.min_eq_left hn, Nat.min_eq_left (Nat.mul_le_mul_right _ hn)]) (fun k hk => by simp at hk; exact (by omega : k < l.length)) (fun k hk => ?_) fun k c hk hc => ?_
  · exact getD_take' (by simp at hk; omega)
  · exact getD_take' (Zbi (by simp at hk; omega) hc)
theorem Els.drop {w : World} {ok : Nat → Prop} {own : Bool} {l : List V} {ty : Ty} {xs : List Value} {F : Nat → Nat → List Nat} (h : Els tab w ok ty own l xs F) (n : Nat) : Els tab w ok ty own (l.drop n) (xs.drop (n * ty.kinds.length)) (fun k c => F (n + k) c) := by
  refine h.pick (fun k => n + k) (by simp [h.len, Nat.sub_mul]) (fun k hk => by simp at hk; omega) (fun k hk => getD_drop') fun k c hk hc => ?_
  rw [getD_drop', Nat.add_mul, Nat.add_assoc]
def delV (l : List V) (i j : Int) : Option (List V) := bif decide (0 ≤ i) && (decide (i ≤ j) && (decide (j ≤ (l.length : Int)) && decide (l.length ≤ 9223372036854775807))) then some (l.take i.toNat ++ l.drop j.toNat) else none
def insV (bytes : Nat) (l : List V) (i : Int) (x : List V) : Option (List V) := bif decide (0 ≤ i) && (decide (i ≤ (l.length : Int)) && (decide (x.length = 1) && Zv (l.length + 1) bytes)) then some (l.take i.toNat ++ x ++ l.drop i.toNat) else none
theorem flatF_sub {n m n' m' : Nat} {F F' : Nat → Nat → List Nat} (h : ∀ k c, k < n' → c < m' → ∃ k', k' < n ∧ ∃ c', c' < m ∧ F' k c = F k' c') : ∀ g ∈ Zw n' m' F', g ∈ Zw n m F := fun g hg => by
  obtain ⟨k, hk, c, hc, hg⟩ := mem_flatF.1 hg
  obtain ⟨k', hk', c', hc', e⟩ := h k c hk hc
  exact mem_flatF.2 ⟨k', hk', c', hc', e ▸ hg⟩
theorem flatF_pick {n n' m : Nat} {F : Nat → Nat → List Nat} (φ : Nat → Nat) (hφ : ∀ k, k < n' → φ k < n) (hinj : ∀ k k', k < n' → k' < n' → φ k = φ k' → k = k') (h : (Zw n m F).Nodup) : (Zw n' m fun k c => F (φ k) c).Nodup := by
  rw [nodup_flatF] at h ⊢
  refine ⟨fun k c hk hc => h.1 _ _ (hφ k hk) hc, fun k c k' c' hk hc hk' hc' hne => h.2 _ _ _ _ (hφ k hk) hc (hφ k' hk') hc' ?_⟩
  rcases hne with hne | hne
  · exact .inl fun e => hne (hinj k k' hk hk' e)
  · exact .inr hne
end
end Go.Eng
namespace Go.Eng
variable {P : Program} {tab : Tab}
theorem topOf_slice (a : Option Addr) (n cap : Nat) : Zn (.slice a n cap) = match a, cap with | some a, _ + 1 => [a.block] | _, _ => [] := by
  cases a <;> cases cap <;> rfl
theorem els_move {w w' : World} {ok : Nat → Prop} {t n : List Nat} {v' : Value} {own : Bool} {l : List V} {ty : Ty} {xs : List Value} {F : Nat → Nat → List Nat} (h : Els tab w ok ty own l xs F)
    (hF : ∀ g ∈ Zw l.length ty.kinds.length F, g ∈ n) (hnd : (t ++ n).Nodup) (hok : ∀ g, ok g → g < w.heap.size ∧ g ∉ t) (hlt : ∀ g ∈ t ++ n, g < w.heap.size) (hk : KeptBut t w w') (htop : ∀ g ∈ Zn v', g ∈ t ∨ w.heap.size ≤ g) :
    Els tab w' (fun g => (ok g ∨ g ∈ t ++ n ∨ w.heap.size ≤ g) ∧ g < w'.heap.size ∧ g ∉ ([] ++ Zn v')) ty own l xs F := by
  refine h.keep (fun g hg => ⟨.inl hg, Nat.lt_of_lt_of_le (hok g hg).1 hk.size, fun hm => ?_⟩) (fun g hg => hk.block g (hok g hg).1 (hok g hg).2) fun i j hi hj g hg => ?_
  · rcases htop g (by simpa using hm) with h1 | h1
    · exact (hok g hg).2 h1
    · have := (hok g hg).1; omega
  · have hgn := hF g (mem_flatF.2 ⟨i, hi, j, hj, hg⟩)
    refine hk.block g (hlt g (List.mem_append_right _ hgn)) fun hm => ?_
    exact (List.nodup_append.1 hnd).2.2 g hm g hgn rfl
theorem after_mk {w w' : World} {ok : Nat → Prop} {args : List V} {vals : List Value} {t n : List Nat} {T : TypeId} {own : Bool} {r : List V} {v' : Value} {ty : Ty} {xs : List Value} {F : Nat → Nat → List Nat} {outs : List V} (ht : tab T = some ty)
    (hr : RowIs w' T ty.kinds.length r.length v' xs) (he : Els tab w' (fun g => (ok g ∨ g ∈ t ++ n ∨ w.heap.size ≤ g) ∧ g < w'.heap.size ∧ g ∉ ([] ++ Zn v')) ty own r xs F)
    (hO : ∀ R : V → Value → List Nat → List Nat → Prop, (∀ v, R .dead v [] []) → OutL R (Za5 args vals) outs [] []) (hnd : (t ++ n).Nodup) (hlt : ∀ g ∈ t ++ n, g < w.heap.size)
    (hF : ∀ g ∈ Zw r.length ty.kinds.length F, g ∈ n) (hFn : (Zw r.length ty.kinds.length F).Nodup) (hk : KeptBut t w w') (htop : ∀ g ∈ Zn v', g ∈ t ∨ w.heap.size ≤ g) :
    After tab w ok args vals t n (.rr T own r, outs) v' w' := by
  have hn1 : ∀ g ∈ Zw r.length ty.kinds.length F, g < w.heap.size ∧ g ∉ t := fun g hg => ⟨hlt g (List.mem_append_right _ (hF g hg)), fun hm => (List.nodup_append.1 hnd).2.2 g hm g (hF g hg) rfl⟩
  have hT : (Zn v').Nodup := by
    cases v' with
    | slice a n c => rw [topOf_slice]; split <;> simp
    | _ => simp [Zn]
  refine ⟨Zn v', Zw r.length ty.kinds.length F, [], [], .one (.one (.row (he.row ht hr))), hO _ fun v => .one (.tree (.dead _)), ?_, ?_, ?_, ?_, hk⟩
  · simp only [List.nil_append]
    rw [List.nodup_append]
    refine ⟨hT, hFn, fun a ha b hb e => ?_⟩
    subst e
    rcases htop a ha with h | h
    · exact (hn1 a hb).2 h
    · have := (hn1 a hb).1; omega
  · simpa using htop
  · intro g hg
    exact .inl (List.mem_append_right _ (hF g (by simpa using hg)))
  · intro g hg
    simp only [List.nil_append, List.mem_append] at hg
    rcases hg with hg | hg
    · exact hr.top_lt g hg
    · exact Nat.lt_of_lt_of_le (hn1 g hg).1 hk.size
theorem rq_int {w : World} {ok : Nat → Prop} {k : IntKind} {m : Int} {v : Value} {t n : List Nat} (h : Rq2 tab w ok (.int k m) v t n) : v = .int k m ∧ t = [] ∧ n = [] := by
  cases h with | one h => cases h with | tree h => cases h; exact ⟨rfl, rfl, rfl⟩
theorem rq_rr {w : World} {ok : Nat → Prop} {T : TypeId} {own : Bool} {l : List V} {v : Value} {t n : List Nat} (h : Rq2 tab w ok (.rr T own l) v t n) : RowT tab w ok T own l v n ∧ t = Zn v := by
  cases h with | one h => cases h with
    | tree h => cases h
    | row h => exact ⟨h, rfl⟩
theorem RowIs.slice {w : World} {T : TypeId} {sz N : Nat} {v : Value} {xs : List Value} (h : RowIs w T sz N v xs) : ∃ a cap, v = .slice a N cap ∧ N ≤ cap ∧ cap ≤ maxLen := by
  rcases h.2 with ⟨a, rfl, rfl⟩ | ⟨g, cap, cur, rfl, h1, h2, h3, h4, _⟩
  · exact ⟨a, 0, rfl, Nat.le_refl _, by simp [maxLen]⟩
  · exact ⟨_, cap, rfl, h3, h4⟩
theorem sum_del {f : FuncId} {T : TypeId} {ty : Ty} {own : Bool} {l r : List V} {i j : Int} (ht : tab T = some ty) (hD : DelOk P f T ty.kinds.length) (hS : DelSame P f) (hv : delV l i j = some r) :
    SumOk P tab f [.rr T own l, .int .i64 i, .int .i64 j] (.rr T own r, [.dead]) := by
  intro w ok vals t n hrq hnd hok hlt
  cases hrq with | @cons _ v t1 n1 _ vs1 ts1 ns1 hx hxs =>
  cases hxs with | @cons _ v2 t2 n2 _ vs2 ts2 ns2 hx2 hxs =>
  cases hxs with | @cons _ v3 t3 n3 _ vs3 ts3 ns3 hx3 hxs =>
  cases hxs
  obtain ⟨rfl, rfl, rfl⟩ := rq_int hx2
  obtain ⟨rfl, rfl, rfl⟩ := rq_int hx3
  obtain ⟨hrow, rfl⟩ := rq_rr hx
  simp only [List.append_nil] at hnd hok hlt ⊢
  unfold delV at hv
  rw [Bool.cond_eq_ite] at hv
  split at hv
  case isFalse => cases hv
  rename_i hb
  cases hv
  simp only [Bool.and_eq_true, decide_eq_true_eq] at hb
  obtain ⟨hi, hij, hjl, hl63⟩ := hb
  obtain ⟨i, rfl⟩ := Int.eq_ofNat_of_zero_le hi
  obtain ⟨j, rfl⟩ := Int.eq_ofNat_of_zero_le (Int.le_trans hi hij)
  have hij : i ≤ j := by omega
  have hjl : j ≤ l.length := by omega
  simp only [Int.toNat_natCast]
  obtain ⟨xs, F, hr, he, hn⟩ := hrow.els ht
  have hO : ∀ R : V → Value → List Nat → List Nat → Prop, (∀ v, R .dead v [] []) → OutL R (Za5 [V.rr T own l, .int .i64 (i : Int), .int .i64 (j : Int)] [v, .int .i64 (i : Int), .int .i64 (j : Int)]) [.dead] [] [] := fun R h =>
    (OutL.cons (p := (V.rr T own l, v)) (t := []) (n := []) trivial (h _) .nil : OutL R [(V.rr T own l, v)] [.dead] ([] ++ []) ([] ++ []))
  have hFn0 : (Zw l.length ty.kinds.length F).Nodup := by rw [← hn]; exact (List.nodup_append.1 hnd).2.1
  have hel := (he.take (n := i) (by omega)).append (he.drop j)
  have hF' : ∀ k c, (if k < (l.take i).length then F k c else F (j + (k - (l.take i).length)) c) = F (if k < i then k else j + (k - i)) c := fun k c => by
    have : (l.take i).length = i := by simp; omega
    rw [this]; split <;> rfl
  have hlen : (l.take i ++ l.drop j).length = l.length - (j - i) := by simp; omega
  have hφ : ∀ k, k < (l.take i ++ l.drop j).length → (if k < i then k else j + (k - i)) < l.length := fun k hk => by rw [hlen] at hk; split <;> omega
  have hsub : ∀ g ∈ Zw (l.take i ++ l.drop j).length ty.kinds.length (fun k c => if k < (l.take i).length then F k c else F (j + (k - (l.take i).length)) c), g ∈ n1 := by
    rw [hn]
    exact flatF_sub fun k c hk hc => ⟨_, hφ k hk, c, hc, hF' k c⟩
  have hnod : (Zw (l.take i ++ l.drop j).length ty.kinds.length (fun k c => if k < (l.take i).length then F k c else F (j + (k - (l.take i).length)) c)).Nodup := by
    have := flatF_pick (fun k => if k < i then k else j + (k - i)) hφ (fun k k' hk hk' e => by
      split at e <;> split at e <;> omega) hFn0
    simpa only [hF'] using this
  by_cases heq : i = j
  · subst heq
    obtain ⟨a, cap, rfl, h1, h2⟩ := hr.slice
    refine Calls.mono (hS a l.length cap i w hjl h1 h2) ?_
    rintro e w' ⟨rfl, hk⟩
    have hk' : KeptBut (Zn (.slice a l.length cap)) w w' := hk.mono (by simp)
    refine ⟨_, rfl, after_mk ht (xs := xs.take (i * ty.kinds.length) ++ xs.drop (i * ty.kinds.length)) ?_ (els_move hel hsub hnd hok hlt hk' fun g hg => .inl hg) hO hnd hlt hsub hnod hk' fun g hg => .inl hg⟩
    rw [List.take_append_drop, List.take_append_drop]
    refine hr.keep fun g hg => hk.block g (hlt g (List.mem_append_left _ hg)) (by simp)
  · rcases hr.2 with ⟨a, rfl, h0⟩ | ⟨g, cap, cur, rfl, hc, hg, hN, hm, hs, hx⟩
    · omega
    refine Calls.mono (hD g l.length cap i j cur w hg hs hN hm (by rw [hx]; exact he.one) (by omega) hjl) ?_
    rintro e w' ⟨rfl, cur', k1, k2, k3, k4⟩
    have htop : Zn (Value.slice (some ⟨g, 0, none⟩) (l.length - (j - i)) cap) = Zn (Value.slice (some ⟨g, 0, none⟩) l.length cap) := by rw [Zcg _ _ _ hc, Zcg _ _ _ hc]
    have hk' : KeptBut (Zn (Value.slice (some ⟨g, 0, none⟩) l.length cap)) w w' := by rw [Zcg _ _ _ hc]; exact k4
    refine ⟨_, rfl, after_mk ht (xs := xs.take (i * ty.kinds.length) ++ xs.drop (j * ty.kinds.length)) ?_ (els_move hel hsub hnd hok hlt hk' fun g hg => .inl (htop ▸ hg)) hO hnd hlt hsub hnod hk' fun g hg => .inl (htop ▸ hg)⟩
    rw [hlen]
    exact rowIs_some hc k1 (by omega) hm k2 (by rw [k3, hx])
theorem sum_ins {f : FuncId} {T : TypeId} {ty : Ty} {own : Bool} {l x r : List V} {i : Int} (ht : tab T = some ty) (hI : InsOk P f T ty.kinds.length ty.bytes) (hv : insV ty.bytes l i x = some r) :
    SumOk P tab f [.rr T own l, .int .i64 i, .rr T own x] (.rr T own r, [.dead, .dead]) := by
  intro w ok vals t n hrq hnd hok hlt
  cases hrq with | @cons _ v t1 n1 _ vs1 ts1 ns1 hx hxs =>
  cases hxs with | @cons _ v2 t2 n2 _ vs2 ts2 ns2 hx2 hxs =>
  cases hxs with | @cons _ v3 t3 n3 _ vs3 ts3 ns3 hx3 hxs =>
  cases hxs
  obtain ⟨rfl, rfl, rfl⟩ := rq_int hx2
  obtain ⟨hrow, rfl⟩ := rq_rr hx
  obtain ⟨hrow3, rfl⟩ := rq_rr hx3
  simp only [List.append_nil, List.nil_append] at hnd hok hlt ⊢
  unfold insV at hv
  rw [Bool.cond_eq_ite] at hv
  split at hv
  case isFalse => cases hv
  rename_i hb
  cases hv
  simp only [Bool.and_eq_true, decide_eq_true_eq, Zv] at hb
  obtain ⟨hi, hil, hx1, hr63, hrb⟩ := hb
  obtain ⟨i, rfl⟩ := Int.eq_ofNat_of_zero_le hi
  have hil : i ≤ l.length := by omega
  simp only [Int.toNat_natCast]
  obtain ⟨xs, F, hr, he, hn⟩ := hrow.els ht
  obtain ⟨ys, G, hr3, he3, hn3⟩ := hrow3.els ht
  subst hn; subst hn3
  have hO : ∀ R : V → Value → List Nat → List Nat → Prop, (∀ v, R .dead v [] []) → OutL R (Za5 [V.rr T own l, .int .i64 (i : Int), .rr T own x] [v, .int .i64 (i : Int), v3]) [.dead, .dead] [] [] := fun R h =>
    (OutL.cons (p := (V.rr T own l, v)) (t := []) (n := []) trivial (h _) (OutL.cons (p := (V.rr T own x, v3)) (t := []) (n := []) trivial (h _) .nil) : OutL R [(V.rr T own l, v), (V.rr T own x, v3)] [.dead, .dead] ([] ++ ([] ++ [])) ([] ++ ([] ++ [])))
  have hel := ((he.take (n := i) hil).append he3).append (he.drop i)
  have hli : (l.take i).length = i := by simp; omega
  have hlix : (l.take i ++ x).length = i + 1 := by simp [hx1]; omega
  have hlen : (l.take i ++ x ++ l.drop i).length = l.length + 1 := by simp [hx1]; omega
  obtain ⟨F', hF'⟩ : ∃ F' : Nat → Nat → List Nat, F' = fun k c => if k < (l.take i ++ x).length then (if k < (l.take i).length then F k c else G (k - (l.take i).length) c) else F (i + (k - (l.take i ++ x).length)) c := ⟨_, rfl⟩
  rw [← hF'] at hel
  have c1 : ∀ k c, k < i → F' k c = F k c := fun k c hk => by rw [hF']; simp only [hlix, hli]; rw [if_pos (by omega), if_pos hk]
  have c2 : ∀ c, F' i c = G 0 c := fun c => by rw [hF']; simp only [hlix, hli]; rw [if_pos (by omega), if_neg (by omega), Nat.sub_self]
  have c3 : ∀ k c, i < k → F' k c = F (k - 1) c := fun k c hk => by rw [hF']; simp only [hlix, hli]; rw [if_neg (by omega)]; congr 1; omega
  obtain ⟨⟨hT1, hT2, hT3⟩, ⟨hN1, hN2, hN3⟩, hTN⟩ := (List.nodup_append.1 hnd).imp List.nodup_append.1 fun h => h.imp List.nodup_append.1 id
  have hFn := nodup_flatF.1 hN1
  have hGn := nodup_flatF.1 hN2
  have hFG : ∀ k c c' g, k < l.length → c < ty.kinds.length → c' < ty.kinds.length → g ∈ F k c → g ∈ G 0 c' → False := fun k c c' g hk hc hc' h1 h2 => hN3 g (mem_flatF.2 ⟨k, hk, c, hc, h1⟩) g (mem_flatF.2 ⟨0, by omega, c', hc', h2⟩) rfl
  have hsub : ∀ g ∈ Zw (l.take i ++ x ++ l.drop i).length ty.kinds.length F', g ∈ Zw l.length ty.kinds.length F ++ Zw x.length ty.kinds.length G := fun g hg0 => by
    obtain ⟨k, hk, c, hc, hg⟩ := mem_flatF.1 hg0
    clear hg0
    rw [hlen] at hk
    rcases Nat.lt_trichotomy k i with h | h | h
    · rw [c1 k c h] at hg; exact List.mem_append_left _ (mem_flatF.2 ⟨k, by omega, c, hc, hg⟩)
    · subst h; rw [c2 c] at hg; exact List.mem_append_right _ (mem_flatF.2 ⟨0, by omega, c, hc, hg⟩)
    · rw [c3 k c h] at hg; exact List.mem_append_left _ (mem_flatF.2 ⟨k - 1, by omega, c, hc, hg⟩)
  have hnod : (Zw (l.take i ++ x ++ l.drop i).length ty.kinds.length F').Nodup := by
    rw [nodup_flatF, hlen]
    refine ⟨fun k c hk hc => ?_, fun k c k' c' hk hc hk' hc' hne g hg hg' => ?_⟩
    · rcases Nat.lt_trichotomy k i with h | h | h
      · rw [c1 k c h]; exact hFn.1 k c (by omega) hc
      · subst h; rw [c2 c]; exact hGn.1 0 c (by omega) hc
      · rw [c3 k c h]; exact hFn.1 _ c (by omega) hc
    · rcases Nat.lt_trichotomy k i with h | h | h <;> rcases Nat.lt_trichotomy k' i with h' | h' | h'
      · rw [c1 k c h] at hg; rw [c1 k' c' h'] at hg'; exact hFn.2 k c k' c' (by omega) hc (by omega) hc' hne g hg hg'
      · subst h'; rw [c1 k c h] at hg; rw [c2 c'] at hg'; exact hFG k c c' g (by omega) hc hc' hg hg'
      · rw [c1 k c h] at hg; rw [c3 k' c' h'] at hg'; exact hFn.2 k c (k' - 1) c' (by omega) hc (by omega) hc' (.inl (by omega)) g hg hg'
      · subst h; rw [c2 c] at hg; rw [c1 k' c' h'] at hg'; exact hFG k' c' c g (by omega) hc' hc hg' hg
      · subst h; subst h'; rw [c2 c] at hg; rw [c2 c'] at hg'; exact hGn.2 0 c 0 c' (by omega) hc (by omega) hc' (.inr (by rcases hne with e | e; exact absurd rfl e; exact e)) g hg hg'
      · subst h; rw [c2 c] at hg; rw [c3 k' c' h'] at hg'; exact hFG (k' - 1) c' c g (by omega) hc' hc hg' hg
      · rw [c3 k c h] at hg; rw [c1 k' c' h'] at hg'; exact hFn.2 (k - 1) c k' c' (by omega) hc (by omega) hc' (.inl (by omega)) g hg hg'
      · subst h'; rw [c3 k c h] at hg; rw [c2 c'] at hg'; exact hFG (k - 1) c c' g (by omega) hc hc' hg hg'
      · rw [c3 k c h] at hg; rw [c3 k' c' h'] at hg'
        exact hFn.2 (k - 1) c (k' - 1) c' (by omega) hc (by omega) hc' (by rcases hne with e | e; exact .inl (by omega); exact .inr e) g hg hg'
  rw [hx1] at hr3
  refine Calls.mono (hI w v v3 l.length i xs ys hr hr3 (fun g hg hg' => hT3 g hg g hg' rfl) he.one he3.one hil hrb hr63) ?_
  rintro e w' ⟨v', rfl, k1, k2, k3⟩
  have hk' : KeptBut (Zn v ++ Zn v3) w w' := k2.mono fun g hg => List.mem_append_left _ hg
  have htop : ∀ g ∈ Zn v', g ∈ Zn v ++ Zn v3 ∨ w.heap.size ≤ g := fun g hg => (k3 g hg).imp (List.mem_append_left _) id
  exact ⟨v', rfl, after_mk ht (by rw [hlen]; exact k1) (els_move hel hsub hnd hok hlt hk' htop) hO hnd hlt hsub hnod hk' htop⟩
def enDel (hB : Base P tab) {f : FuncId} {fn : Func} (hf : P.funcs[f]? = some fn) (hb : (!(fn.name == "runtime.NumGoroutine") && fn.body.isSome) = true) (T : TypeId) {ty : Ty} (ht : tab T = some ty) (own : Bool) (hD : DelOk P f T ty.kinds.length) (hS : DelSame P f) (par : List (Option TypeId)) : En P tab :=
  { f := f
    s := fun a => bif Za7 [.one (.rr T own), .one (.int .i64), .one (.int .i64)] a then some ((delV (rd a 0).L (rd a 1).I (rd a 2).I).isSome, (V.rr T own ((delV (rd a 0).L (rd a 1).I (rd a 2).I).getD default), [V.dead])) else none
    ok := by
      intro args r h
      cases hs : Za7 [.one (.rr T own), .one (.int .i64), .one (.int .i64)] args with
      | false => rw [hs] at h; cases h
      | true =>
        rw [hs] at h
        simp only [cond_true, Option.some.injEq, Prod.mk.injEq] at h
        obtain ⟨h1, h2⟩ := h
        obtain ⟨x, hx⟩ := Option.isSome_iff_exists.1 h1
        rw [hx] at h2
        have ha := ZcE (pre := []) hs
        simp only [List.nil_append, List.length_nil, argsMk, S2.mk, S1.mk] at ha
        rw [← ha, ← h2]
        exact sum_del ht hD hS hx
    en := ZbR hf hb, par := par, wr := true }
def enIns (hB : Base P tab) {f : FuncId} {fn : Func} (hf : P.funcs[f]? = some fn) (hb : (!(fn.name == "runtime.NumGoroutine") && fn.body.isSome) = true) (T : TypeId) {ty : Ty} (ht : tab T = some ty) (own : Bool) (bytes : Nat) (hbytes : ty.bytes = bytes) (hI : InsOk P f T ty.kinds.length ty.bytes) (par : List (Option TypeId)) : En P tab :=
  { f := f
    s := fun a => bif Za7 [.one (.rr T own), .one (.int .i64), .one (.rr T own)] a then some ((insV bytes (rd a 0).L (rd a 1).I (rd a 2).L).isSome, (V.rr T own ((insV bytes (rd a 0).L (rd a 1).I (rd a 2).L).getD default), [V.dead, V.dead])) else none
    ok := by
      intro args r h
      cases hs : Za7 [.one (.rr T own), .one (.int .i64), .one (.rr T own)] args with
      | false => rw [hs] at h; cases h
      | true =>
        rw [hs] at h
        simp only [cond_true, Option.some.injEq, Prod.mk.injEq] at h
        obtain ⟨h1, h2⟩ := h
        obtain ⟨x, hx⟩ := Option.isSome_iff_exists.1 h1
        rw [hx] at h2
        have ha := ZcE (pre := []) hs
        simp only [List.nil_append, List.length_nil, argsMk, S2.mk, S1.mk] at ha
        rw [← ha, ← h2]
        subst hbytes
        exact sum_ins ht hI hx
    en := ZbR hf hb, par := par, wr := true }
end Go.Eng
namespace Go.Eng
variable {P : Program} {tab : Tab}
def cmpV (a b : List V) : Int := bif ZbK (a.map Zau) (b.map Zau) then -1 else bif ZbA (a.map Zau) (b.map Zau) then 0 else 1
theorem compareBytes_lt : ∀ a b : List UInt8, Lib.compareBytes a b = if Op.bytesLess a b = true then -1 else if (a == b) = true then 0 else 1
  | [], [] => rfl
  | [], _ :: _ => rfl
  | _ :: _, [] => rfl
  | x :: a, y :: b => by
    have ih := compareBytes_lt a b
    unfold Lib.compareBytes
    simp only [Op.bytesLess, List.cons_beq_cons, Bool.or_eq_true, Bool.and_eq_true, decide_eq_true_eq]
    by_cases h1 : x < y
    · simp [h1]
    · by_cases h2 : y < x
      · have h3 : x ≠ y := fun e => h1 (e ▸ h2)
        simp [h1, h2, h3]
      · have h3 : x = y := UInt8.le_antisymm (UInt8.not_lt.1 h2) (UInt8.not_lt.1 h1)
        subst h3
        simp [ih]
theorem bytesOf_inl {w : World} {ok : Nat → Prop} {e : TypeId} {et : Ty} (he : tab e = some et) (ha : et.agg = false) (hk : et.kinds = [.int .u8]) {l : List V} {v : Value} (h : Rp tab w ok (.inl e l) v) :
    ∃ s, (Extern.Bytes.bytesOf v).run P w = .ok s w ∧ Z2 s = l.map Zau := by
  cases h with | inl _ _ ty a cap g off cv h1 h2 h3 h4 h5 h6 =>
  obtain rfl : et = ty := Option.some.inj (he.symm.trans h1)
  by_cases hl : l = []
  · subst hl
    cases a with
    | none => exact ⟨.empty, by simp [Extern.Bytes.bytesOf], rfl⟩
    | some a => exact ⟨.empty, by simp [Extern.Bytes.bytesOf, Extern.Bytes.loadBytes], rfl⟩
  · obtain ⟨rfl, -⟩ := h3 hl
    have hel : ∀ i, i < l.length → cv i 0 = .int .u8 ((l.getD i .dead).I) := fun i hi => by
      have hs := h4 i hi
      have hc0 : (l.getD i .dead).cell 0 = l.getD i .dead := by
        have hna := hs.2.2.1 ha
        cases hx : l.getD i .dead <;> first | rfl | exact absurd hx (hna _)
      have hkk := hs.2.2.2 0 (by rw [hk]; exact Nat.one_pos)
      have hr := h6 i 0 hi (by rw [hk]; exact Nat.one_pos)
      rw [hk] at hkk
      rw [hc0] at hkk hr
      cases hx : l.getD i .dead <;> rw [hx] at hkk hr <;> simp [kindOk] at hkk
      subst hkk
      rw [hr.int_eq]; rfl
    have hcell : ∀ j x, (l.map V.I)[j]? = some x → w.cell? ((⟨g, off, none⟩ : Addr).add j) = some (.int .u8 x) := fun j x hj => by
      have hlt : j < l.length := by have := (List.getElem?_eq_some_iff.1 hj).1; simpa using this
      have := h5 j 0 hlt (by rw [hk]; exact Nat.one_pos)
      rw [hk] at this
      rw [Addr.add_none]
      simp only [List.length_cons, List.length_nil, Nat.zero_add, Nat.mul_one, Nat.add_zero] at this
      rw [this, hel j hlt]
      have e2 := (List.getElem?_eq_some_iff.1 hj).2
      simp at e2
      rw [← e2]; simp [List.getD, hlt]
    have hrun := Lib.run_loadBytesX (P := P) w (l.map V.I) ⟨g, off, none⟩ .empty hcell
    rw [List.length_map] at hrun
    refine ⟨_, by simp only [Extern.Bytes.bytesOf]; exact hrun, ?_⟩
    simp only [Z2, Lib.bytesOf]
    simp
    intro x _
    simp [Zau]
theorem cmp_spec {a b : ByteArray} {x y : List V} (ha : Z2 a = x) (hb : Z2 b = y) : Extern.BytealgCompare.cmp a b = bif ZbK x y then -1 else bif ZbA x y then 0 else 1 := by
  rw [Lib.cmp_eq, compareBytes_lt, ← ha, ← hb, strOf_lt, strOf_inj]
  simp only [Bool.cond_eq_ite]
def CmpOk (P : Program) (f : FuncId) : Prop := ∀ (v1 v2 : Value) (c : Int) (w : World), (Extern.BytealgCompare.compare #[v1, v2]).run P w = .ok (.int .i64 c) w → Calls P f #[v1, v2] w fun e w' => e = .returned (.int .i64 c) ∧ KeptBut [] w w'
theorem rq_inl {w : World} {ok : Nat → Prop} {T : TypeId} {l : List V} {v : Value} {t n : List Nat} (h : Rq2 tab w ok (.inl T l) v t n) : Rp tab w ok (.inl T l) v ∧ t = [] ∧ n = [] := by
  cases h with | one h => cases h with | tree h => exact ⟨h, rfl, rfl⟩
theorem sum_cmp {f : FuncId} {e : TypeId} {et : Ty} (he : tab e = some et) (ha : et.agg = false) (hk : et.kinds = [.int .u8]) (hC : CmpOk P f) (a b : List V) : SumOk P tab f [.inl e a, .inl e b] (.int .i64 (cmpV a b), []) := by
  intro w ok vals t n hrq hnd hok hlt
  cases hrq with | @cons _ v t1 n1 _ vs1 ts1 ns1 hx hxs =>
  cases hxs with | @cons _ v2 t2 n2 _ vs2 ts2 ns2 hx2 hxs =>
  cases hxs
  obtain ⟨r1, rfl, rfl⟩ := rq_inl hx
  obtain ⟨r2, rfl, rfl⟩ := rq_inl hx2
  obtain ⟨s1, e1, e2⟩ := bytesOf_inl (P := P) he ha hk r1
  obtain ⟨s2, e3, e4⟩ := bytesOf_inl (P := P) he ha hk r2
  have hrun : (Extern.BytealgCompare.compare #[v, v2]).run P w = .ok (.int .i64 (cmpV a b)) w := by
    change Sem.run P (do pure (goInt (Extern.BytealgCompare.cmp (← Extern.Bytes.bytesOf v) (← Extern.Bytes.bytesOf v2)))) w = _
    simp only [Sem.run_bind, e1, e3, Result.andThen_ok, Sem.run_pure]
    rw [cmp_spec e2 e4]
    rfl
  refine (hC v v2 _ w hrun).mono ?_
  rintro e' w' ⟨rfl, hkp⟩
  exact ⟨_, rfl, [], [], [], [], .one (.one (.tree (.int _ _))), .nil, by simp, by simp, by simp, by simp, hkp.mono (by simp)⟩
def enCmp (hB : Base P tab) {f : FuncId} {fn : Func} (hf : P.funcs[f]? = some fn) (hb : (!(fn.name == "runtime.NumGoroutine") && fn.body.isSome) = true) (e : TypeId) {et : Ty} (he : tab e = some et) (ha : et.agg = false) (hk : et.kinds = [.int .u8]) (hC : CmpOk P f) (par : List (Option TypeId)) : En P tab :=
  { f := f
    s := fun a => bif Za7 [.one (.inl e), .one (.inl e)] a then some (true, (V.int .i64 (cmpV (rd a 0).L (rd a 1).L), [])) else none
    ok := by
      intro args r h
      cases hs : Za7 [.one (.inl e), .one (.inl e)] args with
      | false => rw [hs] at h; cases h
      | true =>
        rw [hs] at h
        simp only [cond_true, Option.some.injEq, Prod.mk.injEq, true_and] at h
        have h2 := h
        have ha' := ZcE (pre := []) hs
        simp only [List.nil_append, List.length_nil, argsMk, S2.mk, S1.mk] at ha'
        rw [← ha', ← h2]
        exact sum_cmp he ha hk hC _ _
    en := ZbR hf hb, par := par, wr := false }
end Go.Eng
namespace Go.Eng
variable {P : Program} {tab : Tab}
structure Reads (P : Program) (w : World) (sz m : Nat) (v : Value) (ys : List Value) : Prop where
  len : ys.length = m * sz
  one : OneL ys
  lenOf : ∀ W, (Builtin.lenOf v).run P W = .ok m W
  cells : ∀ W : World, (∀ g, g < w.heap.size → W.heap[g]? = w.heap[g]?) → (Builtin.firstCells sz m v).run P W = .ok ys.toArray W
end Go.Eng
namespace Go.Eng
end Go.Eng
namespace Go.Eng
variable {P : Program} {tab : Tab}
end Go.Eng
namespace Go.Eng
noncomputable section
variable {P : Program} {tab : Tab}
def sumsK (c d e T : Nat) : Sums := fun f args => bif Nat.beq f c then (match args with
    | [.inl e1 a, .inl e2 b] => bif Nat.beq e1 e && Nat.beq e2 e then some (true, (.int .i64 (cmpV a b), [])) else none
    | _ => none)
  else bif Nat.beq f d then (match args with
    | [.rr T1 own l, .int .i64 i, .int .i64 j] => bif Nat.beq T1 T then (match delV l i j with | some r => some (true, (.rr T own r, [.dead])) | none => none) else none
    | _ => none)
  else none
theorem sumsK_ok {c d e T : Nat} {et ty : Ty} (he : tab e = some et) (ha : et.agg = false) (hk : et.kinds = [.int .u8]) (hC : CmpOk P c) (hcE : Enters P c) (ht : tab T = some ty) (hD : DelOk P d T ty.kinds.length) (hS : DelSame P d) (hdE : Enters P d) : ZaW P tab (sumsK c d e T) := by
  intro f args r h
  unfold sumsK at h
  cases hc : Nat.beq f c with
  | true =>
    obtain rfl := Nat.eq_of_beq_eq_true hc
    rw [hc, cond_true] at h
    split at h
    · rename_i e1 a e2 b
      cases hq : (Nat.beq e1 e && Nat.beq e2 e) with
      | false => rw [hq] at h; cases h
      | true =>
        rw [hq] at h
        cases h
        rw [Bool.and_eq_true] at hq
        obtain rfl := Nat.eq_of_beq_eq_true hq.1
        obtain rfl := Nat.eq_of_beq_eq_true hq.2
        exact ⟨hcE, sum_cmp he ha hk hC a b⟩
    · cases h
  | false =>
    rw [hc, cond_false] at h
    cases hd : Nat.beq f d with
    | false => rw [hd] at h; cases h
    | true =>
      obtain rfl := Nat.eq_of_beq_eq_true hd
      rw [hd, cond_true] at h
      split at h
      · rename_i T1 own l i j
        cases hq : Nat.beq T1 T with
        | false => rw [hq] at h; cases h
        | true =>
          rw [hq, cond_true] at h
          obtain rfl := Nat.eq_of_beq_eq_true hq
          split at h
          · rename_i x hx
            cases h
            exact ⟨hdE, sum_del ht hD hS hx⟩
          · cases h
      · cases h
def cfgK (tab : Tab) (c d e T : Nat) : Cfg := { tab := tab, sums := sumsK c d e T, mutf := fun f => Nat.beq f d }
def enB {f : FuncId} {fn : Func} (hf : P.funcs[f]? = some fn) (hb : (!(fn.name == "runtime.NumGoroutine") && fn.body.isSome) = true) {b : Bool} (h : SumOk P tab f [] (.bool b, [])) : En P tab :=
  { f := f
    s := fun a => bif a.isEmpty then some (true, (V.bool b, [])) else none
    ok := by
      intro args r hr
      cases args with
      | nil => cases hr; exact h
      | cons _ _ => cases hr
    en := ZbR hf hb, par := [], wr := false }
theorem run_sum {cfg : Cfg} (hT : Zu P cfg.tab) (hS : ZaW P cfg.tab cfg.sums) (hmix : P.follows .mixedOrders = true) {il fl cl : List Nat} {cnf : Nat → Clear} (hil : fnsB P il = true) (hfl : fnsB P fl = true) {m k : Nat} {cn : Clear} {f : FuncId} {fn : Func} (hf : P.funcs[f]? = some fn) (hok : fnOk fn = true) {args : List V} (hlen : Nat.ble args.length fn.ntmps = true) {n : Nat} {r : V × List V}
    (h : Zct { cfg with sums := runSums P cfg (fnsOf P il) fl cl cnf m k } (fnsOf P il) cn n fn args = some r) : SumOk P cfg.tab f args r := by
  simp only [fnOk, Bool.and_eq_true] at hok
  have hb : fn.body = some (ZP fn) := by
    unfold ZP
    cases hq : fn.body with
    | none => rw [hq] at hok; simp at hok
    | some c => rfl
  exact fnG_sound (cfg := { cfg with sums := runSums P cfg (fnsOf P il) fl cl cnf m k }) hT (runSums_ok hT hS hmix (fnsB_spec hil) hfl cl cnf m k) hmix (fnsB_spec hil) hf hb hok.2 (Nat.le_of_ble_eq_true hlen) h
end
end Go.Eng
namespace Go.Eng
def nlt (a b : List V) : Bool := ZbK (a.map Zau) (b.map Zau)
def neq (a b : List V) : Bool := ZbA (a.map Zau) (b.map Zau)
def codes (a : List V) : List Int := a.map fun x => ((x.I.toNat % 256 : Nat) : Int)
theorem ZcX : ∀ a b : List V, neq a b = decide (codes a = codes b)
  | [], [] => rfl
  | [], _ :: _ => rfl
  | _ :: _, [] => rfl
  | x :: a, y :: b => by
    have ih := ZcX a b
    simp only [neq, codes, List.map_cons, ZbA, Zau, V.I, List.cons.injEq] at ih ⊢
    rw [ih]
    by_cases h : ((x.I.toNat % 256 : Nat) : Int) = ((y.I.toNat % 256 : Nat) : Int) <;> simp
def ltC : List Int → List Int → Bool
  | _, [] => false
  | [], _ :: _ => true
  | a :: x, b :: y => decide (a < b) || (decide (a = b) && ltC x y)
theorem ZbB : ∀ a b : List V, nlt a b = ltC (codes a) (codes b)
  | [], [] => rfl
  | [], _ :: _ => rfl
  | _ :: _, [] => rfl
  | x :: a, y :: b => by
    have ih := ZbB a b
    show (decide ((Zau x).I < (Zau y).I) || (decide ((Zau x).I = (Zau y).I) && nlt a b)) = ltC (codes (x :: a)) (codes (y :: b))
    rw [ih]
    rfl
theorem ltC_irr : ∀ a, ltC a a = false
  | [] => rfl
  | x :: a => by simp [ltC, ltC_irr a]
theorem ltC_trans : ∀ a b c, ltC a b = true → ltC b c = true → ltC a c = true
  | _, [], _, h, _ => by cases ‹List Int› <;> simp [ltC] at h
  | _, _ :: _, [], _, h => by simp [ltC] at h
  | [], _ :: _, _ :: _, _, _ => rfl
  | x :: a, y :: b, z :: c, h1, h2 => by
    simp only [ltC, Bool.or_eq_true, Bool.and_eq_true, decide_eq_true_eq] at h1 h2 ⊢
    rcases h1 with h1 | ⟨rfl, h1⟩ <;> rcases h2 with h2 | ⟨rfl, h2⟩
    · exact .inl (by omega)
    · exact .inl h1
    · exact .inl h2
    · exact .inr ⟨rfl, ltC_trans a b c h1 h2⟩
theorem nlt_irr (a : List V) : nlt a a = false := by rw [ZbB]; exact ltC_irr _
theorem nlt_trans {a b c : List V} (h1 : nlt a b = true) (h2 : nlt b c = true) : nlt a c = true := by rw [ZbB] at *; exact ltC_trans _ _ _ h1 h2
theorem nlt_neq {a b : List V} (h : nlt a b = true) : neq a b = false := by
  rw [ZbB] at h
  rw [ZcX, decide_eq_false_iff_not]
  intro e
  rw [e, ltC_irr] at h; cases h
theorem nlt_congr_r {a b c : List V} (h : neq b c = true) : nlt a b = nlt a c := by
  rw [ZcX, decide_eq_true_eq] at h
  rw [ZbB, ZbB, h]
theorem nlt_congr_l {a b c : List V} (h : neq b c = true) : nlt b a = nlt c a := by
  rw [ZcX, decide_eq_true_eq] at h
  rw [ZbB, ZbB, h]
theorem cmpV_neg (a b : List V) : decide (cmpV a b < 0) = nlt a b := by
  show decide ((bif nlt a b then (-1 : Int) else bif neq a b then 0 else 1) < 0) = _
  cases nlt a b <;> cases neq a b <;> rfl
theorem cmpV_nonneg (a b : List V) : decide ((0 : Int) ≤ cmpV a b) = !nlt a b := by
  show decide ((0 : Int) ≤ (bif nlt a b then (-1 : Int) else bif neq a b then 0 else 1)) = _
  cases nlt a b <;> cases neq a b <;> rfl
theorem cmpV_zero (a b : List V) : decide (cmpV a b = 0) = (!nlt a b && neq a b) := by
  show decide ((bif nlt a b then (-1 : Int) else bif neq a b then 0 else 1) = 0) = _
  cases nlt a b <;> cases neq a b <;> rfl
theorem cmpV_zero' (a b : List V) : decide (cmpV a b = 0) = neq a b := by
  rw [cmpV_zero]
  cases h : neq a b with
  | false => simp
  | true =>
    cases h' : nlt a b with
    | false => rfl
    | true => rw [nlt_neq h'] at h; cases h
theorem wr_mid {i j : Nat} (h : i + j < 9223372036854775808) : IntKind.i64.wrap (sShr .u64 (IntKind.u64.wrap (IntKind.i64.wrap ((i : Int) + (j : Int)))) 1) = (((i + j) / 2 : Nat) : Int) := by
  rw [ZaC (n := (i : Int) + (j : Int)) (by omega) (by omega)]
  have hu : IntKind.u64.wrap ((i : Int) + (j : Int)) = (i : Int) + (j : Int) := by
    have := IntWalk.u64_in ((i : Int) + (j : Int)) (by omega)
    exact this
  rw [hu]
  have : sShr .u64 ((i : Int) + (j : Int)) 1 = (((i + j) / 2 : Nat) : Int) := by
    unfold sShr
    rw [show ((2 : Int) ^ (min (1 : Int).toNat IntKind.u64.bits)) = 2 from by decide, Int.fdiv_eq_ediv_of_nonneg _ (by omega)]
    omega
  rw [this, ZaC (by omega) (by omega)]
theorem bs_loop {ρ : Type} {F : Nat → Int → Int → ρ} {x : List V} {p : V → Bool} {n0 : Nat} {out : Int → ρ} (hx : x.length < 4611686018427387904) (hp : ∀ i, i < x.length → p (rd x i) = decide (i < n0))
    (h1 : ∀ m (i j : Nat), i < j → j ≤ x.length → F (m + 1) (i : Int) (j : Int) = bif p (rd x ((i + j) / 2)) then F m (((i + j) / 2 + 1 : Nat) : Int) (j : Int) else F m (i : Int) (((i + j) / 2 : Nat) : Int)) (h0 : ∀ m (i : Nat), F (m + 1) (i : Int) (i : Int) = out (i : Int)) :
    ∀ m (i j : Nat), i ≤ n0 → n0 ≤ j → j ≤ x.length → j - i < m → F m (i : Int) (j : Int) = out (n0 : Int)
  | 0, i, j, _, _, _, h => by omega
  | m + 1, i, j, hi, hj, hl, hm => by
    rcases Nat.lt_or_ge i j with h | h
    · rw [h1 m i j h hl, hp _ (by omega)]
      by_cases hc : (i + j) / 2 < n0
      · rw [decide_eq_true hc, cond_true]
        exact bs_loop hx hp h1 h0 m _ j (by omega) hj hl (by omega)
      · rw [decide_eq_false hc, cond_false]
        exact bs_loop hx hp h1 h0 m i _ hi (by omega) (by omega) (by omega)
    · obtain rfl : i = j := by omega
      obtain rfl : n0 = i := by omega
      exact h0 m n0
theorem ZcY {ρ : Type} {F : Nat → Int → ρ} {n : Nat} {q : Nat → Bool} {yes no : ρ}
    (h1 : ∀ m (i : Nat), i < n → F (m + 1) (i : Int) = bif q i then F m ((i + 1 : Nat) : Int) else no) (h0 : ∀ m, F (m + 1) (n : Int) = yes) :
    F (n + 1) 0 = bif (List.range n).all q then yes else no := by
  refine ZbS (F := fun m (_ : Unit) i => F m i) (n := n) (fun i _ => (List.range i).all q = true) (fun o => o = bif (List.range n).all q then yes else no) ?_ ?_ (s := ()) (by simp)
  · intro m i s hi hI
    rw [h1 m i hi]
    cases hp : q i with
    | true =>
      refine .inl ⟨(), rfl, ?_⟩
      rw [List.range_succ, List.all_append, hI]; simp [hp]
    | false =>
      refine .inr ?_
      have : (List.range n).all q = false := by
        rw [List.all_eq_false]
        exact ⟨i, List.mem_range.2 hi, by simp [hp]⟩
      rw [this]; rfl
  · intro m s hI
    show F (m + 1) (n : Int) = _
    rw [hI]; exact h0 m
def Zs (q : Nat → Bool) : Nat → Nat → Option Nat
  | _, 0 => none
  | i, k + 1 => bif q i then some i else Zs q (i + 1) k
theorem Zch {ρ : Type} {F : Nat → Int → ρ} {n : Nat} {q : Nat → Bool} {no : ρ} {out : Int → ρ}
    (h1 : ∀ m (i : Nat), i < n → F (m + 1) (i : Int) = bif q i then out (i : Int) else F m ((i + 1 : Nat) : Int)) (h0 : ∀ m, F (m + 1) (n : Int) = no) :
    ∀ m (i : Nat), i ≤ n → n - i < m → F m (i : Int) = match Zs q i (n - i) with | some j => out (j : Int) | none => no
  | 0, i, _, h => by omega
  | m + 1, i, hi, hm => by
    rcases Nat.lt_or_ge i n with h | h
    · rw [h1 m i h, show n - i = (n - (i + 1)) + 1 from by omega, Zs]
      cases q i with
      | true => rfl
      | false => exact Zch h1 h0 m (i + 1) (by omega) (by omega)
    · obtain rfl : i = n := by omega
      rw [Nat.sub_self, Zs]; exact h0 m
theorem firstI_none {q : Nat → Bool} : ∀ {k i : Nat}, Zs q i k = none ↔ ∀ j, i ≤ j → j < i + k → q j = false
  | 0, i => by simp [Zs]; omega
  | k + 1, i => by
    rw [Zs]
    cases hq : q i with
    | true => simp; exact ⟨i, Nat.le_refl _, by omega, hq⟩
    | false =>
      rw [cond_false, firstI_none]
      constructor
      · intro h j h1 h2
        rcases Nat.eq_or_lt_of_le h1 with rfl | h3
        · exact hq
        · exact h j h3 (by omega)
      · exact fun h j h1 h2 => h j (by omega) (by omega)
theorem ZaL {q : Nat → Bool} : ∀ {k i j : Nat}, Zs q i k = some j → i ≤ j ∧ j < i + k ∧ q j = true ∧ ∀ t, i ≤ t → t < j → q t = false
  | 0, i, j, h => by simp [Zs] at h
  | k + 1, i, j, h => by
    rw [Zs] at h
    cases hq : q i with
    | true =>
      rw [hq, cond_true] at h
      cases h
      exact ⟨Nat.le_refl _, by omega, hq, fun t h1 h2 => by omega⟩
    | false =>
      rw [hq, cond_false] at h
      obtain ⟨a, b, c, d⟩ := ZaL h
      refine ⟨by omega, by omega, c, fun t h1 h2 => ?_⟩
      rcases Nat.eq_or_lt_of_le h1 with rfl | h3
      · exact hq
      · exact d t h3 h2
def lbN (nm : V → List V) (l : List V) (t : List V) : Nat := (l.takeWhile fun x => nlt (nm x) t).length
def AscN (nm : V → List V) (l : List V) : Prop := ∀ i, i + 1 < l.length → nlt (nm (rd l i)) (nm (rd l (i + 1))) = true
theorem AscN.lt {nm : V → List V} {l : List V} (h : AscN nm l) : ∀ {j i : Nat}, i < j → j < l.length → nlt (nm (rd l i)) (nm (rd l j)) = true
  | 0, i, h1, _ => by omega
  | j + 1, i, h1, h2 => by
    rcases Nat.eq_or_lt_of_le (Nat.le_of_lt_succ h1) with rfl | h3
    · exact h i h2
    · exact nlt_trans (h.lt h3 (by omega)) (h j h2)
theorem rd_eq {l : List V} {i : Nat} (h : i < l.length) : rd l i = l[i] := by simp [rd, List.getD, h]
theorem takeWhile_spec {l : List V} {p : V → Bool} : (∀ i, i < (l.takeWhile p).length → p (rd l i) = true) ∧ ((l.takeWhile p).length < l.length → p (rd l (l.takeWhile p).length) = false) ∧ (l.takeWhile p).length ≤ l.length := by
  induction l with
  | nil => simp
  | cons x l ih =>
    obtain ⟨h1, h2, h3⟩ := ih
    rw [List.takeWhile_cons]
    cases hp : p x with
    | false => simp [rd, hp]
    | true =>
      simp only [if_true, List.length_cons]
      refine ⟨fun i hi => ?_, fun hlt => ?_, by omega⟩
      · cases i with
        | zero => simpa [rd] using hp
        | succ i => exact h1 i (by omega)
      · exact h2 (by omega)
theorem lbN_le (nm : V → List V) (l : List V) (t : List V) : lbN nm l t ≤ l.length := (takeWhile_spec (l := l)).2.2
theorem lbN_spec {nm : V → List V} {l : List V} (h : AscN nm l) (t : List V) : ∀ i, i < l.length → nlt (nm (rd l i)) t = decide (i < lbN nm l t) := by
  intro i hi
  obtain ⟨h1, h2, h3⟩ := takeWhile_spec (l := l) (p := fun x => nlt (nm x) t)
  by_cases hc : i < lbN nm l t
  · rw [decide_eq_true hc]; exact h1 i hc
  · rw [decide_eq_false hc]
    have h2 := h2 (by unfold lbN at hc; omega)
    rcases Nat.eq_or_lt_of_le (Nat.le_of_not_lt hc) with e | hlt
    · rw [← e]; exact h2
    · have hl : nlt (nm (rd l (lbN nm l t))) (nm (rd l i)) = true := h.lt hlt hi
      cases hh : nlt (nm (rd l i)) t with
      | false => rfl
      | true => have := nlt_trans hl hh; rw [show nlt (nm (rd l (lbN nm l t))) t = false from h2] at this; cases this
def hasN (nm : V → List V) (l : List V) (t : List V) : Bool := decide (lbN nm l t < l.length) && neq (nm (rd l (lbN nm l t))) t
theorem find_asc {nm : V → List V} {l : List V} (h : AscN nm l) (t : List V) : Zs (fun i => neq (nm (rd l i)) t) 0 l.length = bif hasN nm l t then some (lbN nm l t) else none := by
  have hs := lbN_spec h t
  have hle := lbN_le nm l t
  cases hf : Zs (fun i => neq (nm (rd l i)) t) 0 l.length with
  | none =>
    rw [firstI_none] at hf
    have : hasN nm l t = false := by
      unfold hasN
      by_cases hc : lbN nm l t < l.length
      · rw [hf _ (by omega) (by omega)]; simp
      · simp [hc]
    rw [this]; rfl
  | some j =>
    obtain ⟨-, hj, hq, hb⟩ := ZaL hf
    have hj : j < l.length := by omega
    have hnl : nlt (nm (rd l j)) t = false := by
      cases hh : nlt (nm (rd l j)) t with
      | false => rfl
      | true => rw [nlt_neq hh] at hq; cases hq
    rw [hs j hj, decide_eq_false_iff_not] at hnl
    have hjl : j = lbN nm l t := by
      rcases Nat.eq_or_lt_of_le (Nat.le_of_not_lt hnl) with e | hlt
      · exact e.symm
      · have := h.lt hlt hj
        rw [nlt_congr_r hq, hs _ (by omega), decide_eq_true_eq] at this
        omega
    have : hasN nm l t = true := by
      unfold hasN
      rw [← hjl]; simp [hj, hq]
    rw [this, hjl]; rfl
end Go.Eng
namespace Go.Eng
section
variable {P : Program} {tab : Tab}
theorem RowT.soft {w : World} {ok : Nat → Prop} {T : TypeId} {els : List V} {v : Value} {nest : List Nat} (h : RowT tab w ok T true els v nest) : RowT tab w (fun g => ok g ∨ g ∈ nest) T false els v [] := by
  obtain ⟨ty, xs, ht, hr, hs, he⟩ := h
  rcases he with ⟨-, F, rfl, he⟩ | ⟨ho, -⟩
  · exact ⟨ty, xs, ht, hr, hs, .inr ⟨rfl, rfl, fun i j hi hj => (he i j hi hj).tree fun g hg => .inr (mem_flatF.2 ⟨i, hi, j, hj, hg⟩)⟩⟩
  · cases ho
theorem after_soft {w w' : World} {ok : Nat → Prop} {args args' : List V} {vals : List Value} {t n m n' : List Nat} {r : V × List V} {val : Value}
    (h : After tab w (fun g => ok g ∨ g ∈ m) args vals t n r val w') (hn : ∀ g, g ∈ n ∨ g ∈ m → g ∈ n')
    (hO : ∀ (R : V → Value → List Nat → List Nat → Prop) ot on, OutL R (Za5 args vals) r.2 ot on → OutL R (Za5 args' vals) r.2 ot on) : After tab w ok args' vals t n' r val w' := by
  obtain ⟨rt, rn, ot, on, h1, h2, h3, h4, h5, h6, h7⟩ := h
  have hk : ∀ g, (((ok g ∨ g ∈ m) ∨ g ∈ t ++ n ∨ w.heap.size ≤ g) ∧ g < w'.heap.size ∧ g ∉ ot ++ rt) → ((ok g ∨ g ∈ t ++ n' ∨ w.heap.size ≤ g) ∧ g < w'.heap.size ∧ g ∉ ot ++ rt) := by
    rintro g ⟨a, b, c⟩
    refine ⟨?_, b, c⟩
    rcases a with (a | a) | a | a
    · exact .inl a
    · exact .inr (.inl (List.mem_append_right _ (hn g (.inr a))))
    · rcases List.mem_append.1 a with a | a
      · exact .inr (.inl (List.mem_append_left _ a))
      · exact .inr (.inl (List.mem_append_right _ (hn g (.inl a))))
    · exact .inr (.inr a)
  refine ⟨rt, rn, ot, on, h1.keep hk, hO _ _ _ (h2.mono fun y _ v t n hy => hy.keep hk), h3, h4, fun g hg => ?_, h6, h7⟩
  rcases h5 g hg with a | a
  · rcases List.mem_append.1 a with a | a
    · exact .inl (List.mem_append_left _ a)
    · exact .inl (List.mem_append_right _ (hn g (.inl a)))
  · exact .inr a
theorem outL_dead2 {R : V → Value → List Nat → List Nat → Prop} {a b a' b' : V} {v u : Value} {ot on : List Nat} (h : OutL R [(a, v), (b, u)] [.dead, .dead] ot on) : OutL R [(a', v), (b', u)] [.dead, .dead] ot on := by
  cases h with | cons h1 h2 h3 =>
  cases h3 with | cons h4 h5 h6 =>
  cases h6
  exact .cons trivial h2 (.cons trivial h5 .nil)
theorem sum_ins_soft {f : FuncId} {T : TypeId} {ty : Ty} {o1 o2 : Bool} {l x r : List V} {i : Int} (ht : tab T = some ty) (hI : InsOk P f T ty.kinds.length ty.bytes) (hv : insV ty.bytes l i x = some r) :
    SumOk P tab f [.rr T o1 l, .int .i64 i, .rr T o2 x] (.rr T (o1 && o2) r, [.dead, .dead]) := by
  have e0 := sum_ins (P := P) (own := false) ht hI hv
  have e1 := sum_ins (P := P) (own := true) ht hI hv
  cases o1 <;> cases o2
  · exact e0
  · intro w ok vals t n hrq hnd hok hlt
    cases hrq with | @cons _ v t1 n1 _ vs1 ts1 ns1 hx hxs =>
    cases hxs with | @cons _ v2 t2 n2 _ vs2 ts2 ns2 hx2 hxs =>
    cases hxs with | @cons _ v3 t3 n3 _ vs3 ts3 ns3 hx3 hxs =>
    cases hxs
    obtain ⟨hrow3, rfl⟩ := rq_rr hx3
    have hI1 : RqL (Rq2 tab w (fun g => ok g ∨ g ∈ n3)) [.rr T false l, .int .i64 i, .rr T false x] [v, v2, v3] (t1 ++ (t2 ++ (Zn v3 ++ []))) (n1 ++ (n2 ++ ([] ++ []))) :=
      .cons (hx.keep fun _ h => .inl h) (.cons (hx2.keep fun _ h => .inl h) (.cons (.one (.row hrow3.soft)) .nil))
    obtain ⟨hd1, hd2, hd3⟩ := List.nodup_append.1 hnd
    have hsub : (n1 ++ (n2 ++ (([] : List Nat) ++ []))).Sublist (n1 ++ (n2 ++ (n3 ++ []))) := (List.Sublist.refl _).append ((List.Sublist.refl _).append ((List.nil_sublist _).append (List.Sublist.refl _)))
    refine Calls.mono (e0 w (fun g => ok g ∨ g ∈ n3) [v, v2, v3] _ _ hI1 (((List.Sublist.refl _).append hsub).nodup hnd) (fun g hg => ?_) fun g hg => hlt g (((List.Sublist.refl _).append hsub).mem hg)) ?_
    · rcases hg with hg | hg
      · exact hok g hg
      · have hm : g ∈ n1 ++ (n2 ++ (n3 ++ [])) := by simp [hg]
        exact ⟨hlt g (List.mem_append_right _ hm), fun ht' => hd3 g ht' g hm rfl⟩
    · rintro e w' ⟨val, he, ha⟩
      exact ⟨val, he, after_soft ha (n' := n1 ++ (n2 ++ (n3 ++ []))) (fun g hg => hg.elim (fun a => hsub.mem a) fun a => by simp [a]) fun R ot on h => outL_dead2 h⟩
  · intro w ok vals t n hrq hnd hok hlt
    cases hrq with | @cons _ v t1 n1 _ vs1 ts1 ns1 hx hxs =>
    cases hxs with | @cons _ v2 t2 n2 _ vs2 ts2 ns2 hx2 hxs =>
    cases hxs with | @cons _ v3 t3 n3 _ vs3 ts3 ns3 hx3 hxs =>
    cases hxs
    obtain ⟨hrow, rfl⟩ := rq_rr hx
    have hI1 : RqL (Rq2 tab w (fun g => ok g ∨ g ∈ n1)) [.rr T false l, .int .i64 i, .rr T false x] [v, v2, v3] (Zn v ++ (t2 ++ (t3 ++ []))) ([] ++ (n2 ++ (n3 ++ []))) :=
      .cons (.one (.row hrow.soft)) (.cons (hx2.keep fun _ h => .inl h) (.cons (hx3.keep fun _ h => .inl h) .nil))
    obtain ⟨hd1, hd2, hd3⟩ := List.nodup_append.1 hnd
    have hsub : (([] : List Nat) ++ (n2 ++ (n3 ++ []))).Sublist (n1 ++ (n2 ++ (n3 ++ []))) := (List.nil_sublist _).append (List.Sublist.refl _)
    refine Calls.mono (e0 w (fun g => ok g ∨ g ∈ n1) [v, v2, v3] _ _ hI1 (((List.Sublist.refl _).append hsub).nodup hnd) (fun g hg => ?_) fun g hg => hlt g (((List.Sublist.refl _).append hsub).mem hg)) ?_
    · rcases hg with hg | hg
      · exact hok g hg
      · have hm : g ∈ n1 ++ (n2 ++ (n3 ++ [])) := List.mem_append_left _ hg
        exact ⟨hlt g (List.mem_append_right _ hm), fun ht' => hd3 g ht' g hm rfl⟩
    · rintro e w' ⟨val, he, ha⟩
      exact ⟨val, he, after_soft ha (n' := n1 ++ (n2 ++ (n3 ++ []))) (fun g hg => hg.elim (fun a => hsub.mem a) fun a => List.mem_append_left _ a) fun R ot on h => outL_dead2 h⟩
  · exact e1
def enIns2 (hB : Base P tab) {f : FuncId} {fn : Func} (hf : P.funcs[f]? = some fn) (hb : (!(fn.name == "runtime.NumGoroutine") && fn.body.isSome) = true) (T : TypeId) {ty : Ty} (ht : tab T = some ty) (o1 o2 : Bool) (bytes : Nat) (hbytes : ty.bytes = bytes) (hI : InsOk P f T ty.kinds.length ty.bytes) (par : List (Option TypeId)) : En P tab :=
  { f := f
    s := fun a => bif Za7 [.one (.rr T o1), .one (.int .i64), .one (.rr T o2)] a then some ((insV bytes (rd a 0).L (rd a 1).I (rd a 2).L).isSome, (V.rr T (o1 && o2) ((insV bytes (rd a 0).L (rd a 1).I (rd a 2).L).getD default), [V.dead, V.dead])) else none
    ok := by
      intro args r h
      cases hs : Za7 [.one (.rr T o1), .one (.int .i64), .one (.rr T o2)] args with
      | false => rw [hs] at h; cases h
      | true =>
        rw [hs] at h
        simp only [cond_true, Option.some.injEq, Prod.mk.injEq] at h
        obtain ⟨h1, h2⟩ := h
        obtain ⟨x, hx⟩ := Option.isSome_iff_exists.1 h1
        rw [hx] at h2
        have ha := ZcE (pre := []) hs
        simp only [List.nil_append, List.length_nil, argsMk, S2.mk, S1.mk] at ha
        rw [← ha, ← h2]
        subst hbytes
        exact sum_ins_soft ht hI hx
    en := ZbR hf hb, par := par, wr := true }
end
end Go.Eng
open Go Go.Eng
namespace Go.Eng.R
def chunks : List (List (Option Ty)) := [
  [none,
   some ⟨[.fn], false, none, [], 8⟩,
   some ⟨[.int .i64], false, none, [], 8⟩,
   some ⟨[.int .i64], false, none, [], 8⟩,
   some ⟨[.bool], false, none, [], 1⟩,
   some ⟨[.int .u8], false, none, [], 1⟩,
   some ⟨[.int .u8], false, none, [], 1⟩,
   some ⟨[.int .i64, .int .i64, .bool, .int .u8], true, none, [(0, 2), (1, 3), (2, 4), (3, 6)], 24⟩,
   some ⟨[.int .i64, .int .i64, .bool, .int .u8], true, none, [(0, 2), (1, 3), (2, 4), (3, 6)], 24⟩,
   some ⟨[.str], false, none, [], 16⟩,
   some ⟨[.str], false, none, [], 16⟩,
   some ⟨[.str], false, none, [], 16⟩,
   some ⟨[.int .u64], false, none, [], 8⟩,
   some ⟨[.str, .int .u64], true, none, [(0, 9), (1, 12)], 24⟩,
   some ⟨[.str, .int .u64], true, none, [(0, 9), (1, 12)], 24⟩,
   some ⟨[.ptr], false, none, [], 8⟩],
  [some ⟨[.ptr], false, none, [], 8⟩,
   some ⟨[.ptr], false, none, [], 8⟩,
   some ⟨[.ptr], true, none, [(0, 17)], 8⟩,
   some ⟨[.ptr], true, none, [(0, 17)], 8⟩,
   none,
   some ⟨[.int .i32], false, none, [], 4⟩,
   some ⟨[.sl 5], false, some 5, [], 24⟩,
   some ⟨[.sl 55], false, some 55, [], 24⟩,
   some ⟨[.sl 98], false, some 98, [], 24⟩,
   some ⟨[.sl 53], false, some 53, [], 24⟩,
   some ⟨[.sl 57], false, some 57, [], 24⟩,
   some ⟨[.int .i64, .sl 55, .sl 98, .int .i64, .sl 53, .sl 57], true, none, [(0, 3), (1, 23), (2, 24), (3, 3), (4, 25), (5, 26)], 112⟩,
   some ⟨[.int .i64, .sl 55, .sl 98, .int .i64, .sl 53, .sl 57], true, none, [(0, 3), (1, 23), (2, 24), (3, 3), (4, 25), (5, 26)], 112⟩,
   some ⟨[.int .i64, .sl 5, .sl 5, .int .i64], true, none, [(0, 3), (1, 22), (2, 22), (3, 3)], 64⟩,
   some ⟨[.int .i64, .sl 5, .sl 5, .int .i64], true, none, [(0, 3), (1, 22), (2, 22), (3, 3)], 64⟩,
   some ⟨[.int .i64, .int .i64, .int .i64, .sl 5, .sl 5, .int .i64], true, none, [(0, 3), (1, 3), (2, 30)], 80⟩],
  [some ⟨[.int .i64, .int .i64, .int .i64, .sl 5, .sl 5, .int .i64], true, none, [(0, 3), (1, 3), (2, 30)], 80⟩,
   none,
   some ⟨[.fn], false, none, [], 8⟩,
   some ⟨[.int .i64, .int .i64], true, none, [(0, 3), (1, 3)], 16⟩,
   some ⟨[.int .i64, .int .i64], true, none, [(0, 3), (1, 3)], 16⟩,
   none,
   some ⟨[.fn], false, none, [], 8⟩,
   some ⟨[.fn], false, none, [], 8⟩,
   some ⟨[.int .i64, .bool, .sl 5], true, none, [(0, 3), (1, 4), (2, 22)], 40⟩,
   some ⟨[.int .i64, .bool, .sl 5], true, none, [(0, 3), (1, 4), (2, 22)], 40⟩,
   some ⟨[.fn], false, none, [], 8⟩,
   some ⟨[.fn], false, none, [], 8⟩,
   some ⟨[.fn], false, none, [], 8⟩,
   none,
   some ⟨[.fn], false, none, [], 8⟩,
   none],
  [some ⟨[.fn], false, none, [], 8⟩,
   some ⟨[.fn], false, none, [], 8⟩,
   some ⟨[.sl 22], false, some 22, [], 24⟩,
   some ⟨[.fn], false, none, [], 8⟩,
   some ⟨[.int .i64, .bool], true, none, [(0, 3), (1, 4)], 16⟩,
   some ⟨[.int .i64, .bool], true, none, [(0, 3), (1, 4)], 16⟩,
   some ⟨[.sl 5, .sl 5, .int .i64, .int .i64], true, none, [(0, 22), (1, 22), (2, 3), (3, 3)], 64⟩,
   some ⟨[.sl 5, .sl 5, .int .i64, .int .i64], true, none, [(0, 22), (1, 22), (2, 3), (3, 3)], 64⟩,
   some ⟨[.int .i64, .int .i64, .int .i64, .int .i64], true, none, [(0, 3), (1, 3), (2, 36)], 32⟩,
   some ⟨[.int .i64, .int .i64, .int .i64, .int .i64], true, none, [(0, 3), (1, 3), (2, 36)], 32⟩,
   none,
   some ⟨[.fn], false, none, [], 8⟩,
   some ⟨[.sl 9], false, some 9, [], 24⟩,
   some ⟨[.fn], false, none, [], 8⟩,
   some ⟨[.fn], false, none, [], 8⟩,
   some ⟨[.fn], false, none, [], 8⟩],
  [some ⟨[.fn], false, none, [], 8⟩,
   some ⟨[.ptr], false, none, [], 8⟩,
   some ⟨[.fn], false, none, [], 8⟩,
   some ⟨[.fn], false, none, [], 8⟩,
   some ⟨[.fn], false, none, [], 8⟩,
   some ⟨[.fn], false, none, [], 8⟩,
   some ⟨[.fn], false, none, [], 8⟩,
   some ⟨[.fn], false, none, [], 8⟩,
   some ⟨[.fn], false, none, [], 8⟩,
   some ⟨[.sl 78], false, some 78, [], 24⟩,
   some ⟨[.fn], false, none, [], 8⟩,
   some ⟨[.fn], false, none, [], 8⟩,
   some ⟨[.fn], false, none, [], 8⟩,
   some ⟨[.int .i64, .int .i64, .int .i64, .int .i64, .sl 5, .sl 5, .int .i64, .sl 5], true, none, [(0, 3), (1, 3), (2, 3), (3, 30), (7, 22)], 112⟩,
   some ⟨[.int .i64, .int .i64, .int .i64, .int .i64, .sl 5, .sl 5, .int .i64, .sl 5], true, none, [(0, 3), (1, 3), (2, 3), (3, 30), (7, 22)], 112⟩,
   some ⟨[.sl 205], false, some 205, [], 24⟩],
  [some ⟨[.sl 89], false, some 89, [], 24⟩,
   some ⟨[.sl 91], false, some 91, [], 24⟩,
   some ⟨[.sl 136], false, some 136, [], 24⟩,
   some ⟨[.sl 28], false, some 28, [], 24⟩,
   some ⟨[.sl 4], false, some 4, [], 24⟩,
   some ⟨[.bool, .bool, .sl 205, .sl 89, .sl 91, .sl 91, .sl 136, .sl 28, .sl 4, .int .i64, .int .i64], true, none, [(0, 4), (1, 4), (2, 79), (3, 80), (4, 81), (5, 81), (6, 82), (7, 83), (8, 84), (9, 3), (10, 3)], 192⟩,
   some ⟨[.bool, .bool, .sl 205, .sl 89, .sl 91, .sl 91, .sl 136, .sl 28, .sl 4, .int .i64, .int .i64], true, none, [(0, 4), (1, 4), (2, 79), (3, 80), (4, 81), (5, 81), (6, 82), (7, 83), (8, 84), (9, 3), (10, 3)], 192⟩,
   some ⟨[.fn], false, none, [], 8⟩,
   some ⟨[.int .i64, .int .i64, .int .i64, .sl 5, .sl 5, .int .i64, .int .i64, .int .i64, .int .i64, .int .i64], true, none, [(0, 3), (1, 3), (2, 30), (6, 3), (7, 3), (8, 36)], 112⟩,
   some ⟨[.int .i64, .int .i64, .int .i64, .sl 5, .sl 5, .int .i64, .int .i64, .int .i64, .int .i64, .int .i64], true, none, [(0, 3), (1, 3), (2, 30), (6, 3), (7, 3), (8, 36)], 112⟩,
   some ⟨[.int .i64, .int .i64, .sl 5, .int .i64, .int .i64, .int .i64, .bool, .sl 5], true, none, [(0, 3), (1, 3), (2, 22), (3, 3), (4, 3), (5, 41)], 96⟩,
   some ⟨[.int .i64, .int .i64, .sl 5, .int .i64, .int .i64, .int .i64, .bool, .sl 5], true, none, [(0, 3), (1, 3), (2, 22), (3, 3), (4, 3), (5, 41)], 96⟩,
   some ⟨[.fn], false, none, [], 8⟩,
   some ⟨[.fn], false, none, [], 8⟩,
   some ⟨[.fn], false, none, [], 8⟩,
   some ⟨[.fn], false, none, [], 8⟩],
  [some ⟨[.fn], false, none, [], 8⟩,
   some ⟨[.sl 5, .int .i64], true, none, [(0, 22), (1, 3)], 32⟩,
   some ⟨[.sl 5, .int .i64], true, none, [(0, 22), (1, 3)], 32⟩,
   some ⟨[.fn], false, none, [], 8⟩,
   some ⟨[.fn], false, none, [], 8⟩,
   some ⟨[.fn], false, none, [], 8⟩,
   some ⟨[.fn], false, none, [], 8⟩,
   some ⟨[.fn], false, none, [], 8⟩,
   some ⟨[.sl 5, .int .i64, .int .i64], true, none, [(0, 22), (1, 3), (2, 3)], 40⟩,
   some ⟨[.sl 5, .int .i64, .int .i64], true, none, [(0, 22), (1, 3), (2, 3)], 40⟩,
   some ⟨[.fn], false, none, [], 8⟩,
   some ⟨[.sl 3], false, some 3, [], 24⟩,
   some ⟨[.fn], false, none, [], 8⟩,
   some ⟨[.fn], false, none, [], 8⟩,
   some ⟨[.fn], false, none, [], 8⟩,
   some ⟨[.fn], false, none, [], 8⟩],
  [none,
   some ⟨[.fn], false, none, [], 8⟩,
   some ⟨[.fn], false, none, [], 8⟩,
   some ⟨[.fn], false, none, [], 8⟩,
   some ⟨[.fn], false, none, [], 8⟩,
   some ⟨[.fn], false, none, [], 8⟩,
   some ⟨[.fn], false, none, [], 8⟩,
   some ⟨[.fn], false, none, [], 8⟩,
   some ⟨[.fn], false, none, [], 8⟩,
   some ⟨[.ptr], false, none, [], 8⟩,
   some ⟨[.fn], false, none, [], 8⟩,
   some ⟨[.fn], false, none, [], 8⟩,
   some ⟨[.fn], false, none, [], 8⟩,
   some ⟨[.fn], false, none, [], 8⟩,
   some ⟨[.ptr], false, none, [], 8⟩,
   some ⟨[.fn], false, none, [], 8⟩],
  [some ⟨[.sl 133], false, some 133, [], 24⟩,
   some ⟨[.sl 176], false, some 176, [], 24⟩,
   some ⟨[.sl 133, .sl 3, .sl 3, .sl 176, .int .i64, .bool, .bool, .sl 205, .sl 89, .sl 91, .sl 91, .sl 136, .sl 28, .sl 4, .int .i64, .int .i64], true, none, [(0, 128), (1, 107), (2, 107), (3, 129), (4, 3), (5, 86)], 296⟩,
   some ⟨[.sl 133, .sl 3, .sl 3, .sl 176, .int .i64, .bool, .bool, .sl 205, .sl 89, .sl 91, .sl 91, .sl 136, .sl 28, .sl 4, .int .i64, .int .i64], true, none, [(0, 128), (1, 107), (2, 107), (3, 129), (4, 3), (5, 86)], 296⟩,
   some ⟨[.fn], false, none, [], 8⟩,
   some ⟨[.ptr], false, none, [], 8⟩,
   some ⟨[.sl 185], false, some 185, [], 24⟩,
   some ⟨[.int .i64, .int .i64, .int .i64, .sl 185, .int .i64, .int .i64, .int .i64, .int .i64, .sl 4, .sl 3, .sl 3], true, none, [(0, 3), (1, 3), (2, 3), (3, 134), (4, 3), (5, 3), (6, 3), (7, 3), (8, 84), (9, 107), (10, 107)], 152⟩,
   some ⟨[.int .i64, .int .i64, .int .i64, .sl 185, .int .i64, .int .i64, .int .i64, .int .i64, .sl 4, .sl 3, .sl 3], true, none, [(0, 3), (1, 3), (2, 3), (3, 134), (4, 3), (5, 3), (6, 3), (7, 3), (8, 84), (9, 107), (10, 107)], 152⟩,
   some ⟨[.sl 160], false, some 160, [], 24⟩,
   some ⟨[.int .i64, .int .i64, .int .i64, .sl 185, .int .i64, .int .i64, .int .i64, .int .i64, .sl 4, .sl 3, .sl 3, .int .i64, .sl 55, .sl 98, .int .i64, .sl 53, .sl 57, .int .i64, .bool, .sl 160], true, none, [(0, 136), (11, 28), (17, 3), (18, 4), (19, 137)], 304⟩,
   some ⟨[.int .i64, .int .i64, .int .i64, .sl 185, .int .i64, .int .i64, .int .i64, .int .i64, .sl 4, .sl 3, .sl 3, .int .i64, .sl 55, .sl 98, .int .i64, .sl 53, .sl 57, .int .i64, .bool, .sl 160], true, none, [(0, 136), (11, 28), (17, 3), (18, 4), (19, 137)], 304⟩,
   some ⟨[.fn], false, none, [], 8⟩,
   some ⟨[.fn], false, none, [], 8⟩,
   some ⟨[.fn], false, none, [], 8⟩,
   some ⟨[.fn], false, none, [], 8⟩],
  [some ⟨[.fn], false, none, [], 8⟩,
   some ⟨[.int .u64], false, none, [], 8⟩,
   some ⟨[.fn], false, none, [], 8⟩,
   some ⟨[.fn], false, none, [], 8⟩,
   some ⟨[.fn], false, none, [], 8⟩,
   some ⟨[.fn], false, none, [], 8⟩,
   some ⟨[.fn], false, none, [], 8⟩,
   some ⟨[.fn], false, none, [], 8⟩,
   some ⟨[.fn], false, none, [], 8⟩,
   some ⟨[.fn], false, none, [], 8⟩,
   some ⟨[.fn], false, none, [], 8⟩,
   none,
   some ⟨[.fn], false, none, [], 8⟩,
   some ⟨[.fn], false, none, [], 8⟩,
   some ⟨[.fn], false, none, [], 8⟩,
   some ⟨[.sl 5, .int .i64], true, none, [(0, 22), (1, 3)], 32⟩],
  [some ⟨[.sl 5, .int .i64], true, none, [(0, 22), (1, 3)], 32⟩,
   some ⟨[.fn], false, none, [], 8⟩,
   some ⟨[.fn], false, none, [], 8⟩,
   some ⟨[.fn], false, none, [], 8⟩,
   some ⟨[.fn], false, none, [], 8⟩,
   some ⟨[.fn], false, none, [], 8⟩,
   some ⟨[.fn], false, none, [], 8⟩,
   some ⟨[.fn], false, none, [], 8⟩,
   some ⟨[.fn], false, none, [], 8⟩,
   some ⟨[.fn], false, none, [], 8⟩,
   some ⟨[.fn], false, none, [], 8⟩,
   some ⟨[.fn], false, none, [], 8⟩,
   some ⟨[.fn], false, none, [], 8⟩,
   some ⟨[.int .i64, .int .i64, .int .i64, .int .i64, .int .i64, .int .i64, .sl 185, .int .i64, .bool], true, none, [(0, 3), (1, 3), (2, 3), (3, 3), (4, 3), (5, 3), (6, 134), (7, 3), (8, 4)], 88⟩,
   some ⟨[.int .i64, .int .i64, .int .i64, .int .i64, .int .i64, .int .i64, .sl 185, .int .i64, .bool], true, none, [(0, 3), (1, 3), (2, 3), (3, 3), (4, 3), (5, 3), (6, 134), (7, 3), (8, 4)], 88⟩,
   some ⟨[.int .i64, .int .i64, .int .i64, .int .i64, .int .i64, .int .i64, .int .i64, .sl 185, .int .i64, .bool, .int .i64, .int .i64, .int .i64, .int .i64, .sl 5, .sl 5, .int .i64, .int .i64, .int .i64, .int .i64, .int .i64], true, none, [(0, 3), (1, 174), (10, 3), (11, 32), (17, 3), (18, 3), (19, 36)], 216⟩],
  [some ⟨[.int .i64, .int .i64, .int .i64, .int .i64, .int .i64, .int .i64, .int .i64, .sl 185, .int .i64, .bool, .int .i64, .int .i64, .int .i64, .int .i64, .sl 5, .sl 5, .int .i64, .int .i64, .int .i64, .int .i64, .int .i64], true, none, [(0, 3), (1, 174), (10, 3), (11, 32), (17, 3), (18, 3), (19, 36)], 216⟩,
   some ⟨[.fn], false, none, [], 8⟩,
   some ⟨[.fn], false, none, [], 8⟩,
   some ⟨[.ptr], false, none, [], 8⟩,
   some ⟨[.fn], false, none, [], 8⟩,
   some ⟨[.fn], false, none, [], 8⟩,
   some ⟨[.ptr], false, none, [], 8⟩,
   some ⟨[.fn], false, none, [], 8⟩,
   some ⟨[.int .i64, .int .i64, .int .i64, .int .i64, .sl 5, .sl 5, .int .i64], true, none, [(0, 3), (1, 32)], 88⟩,
   some ⟨[.int .i64, .int .i64, .int .i64, .int .i64, .sl 5, .sl 5, .int .i64], true, none, [(0, 3), (1, 32)], 88⟩,
   some ⟨[.fn], false, none, [], 8⟩,
   some ⟨[.fn], false, none, [], 8⟩,
   some ⟨[.fn], false, none, [], 8⟩,
   some ⟨[.fn], false, none, [], 8⟩,
   some ⟨[.fn], false, none, [], 8⟩,
   some ⟨[.fn], false, none, [], 8⟩],
  [some ⟨[.fn], false, none, [], 8⟩,
   some ⟨[.fn], false, none, [], 8⟩,
   some ⟨[.sl 174], false, some 174, [], 24⟩,
   some ⟨[.int .i64, .int .i64, .int .i64, .sl 185, .int .i64, .int .i64, .int .i64, .int .i64, .sl 4, .sl 3, .sl 3, .sl 174], true, none, [(0, 136), (11, 194)], 176⟩,
   some ⟨[.int .i64, .int .i64, .int .i64, .sl 185, .int .i64, .int .i64, .int .i64, .int .i64, .sl 4, .sl 3, .sl 3, .sl 174], true, none, [(0, 136), (11, 194)], 176⟩,
   some ⟨[.fn], false, none, [], 8⟩,
   some ⟨[.fn], false, none, [], 8⟩,
   some ⟨[.fn], false, none, [], 8⟩,
   some ⟨[.fn], false, none, [], 8⟩,
   some ⟨[.fn], false, none, [], 8⟩,
   some ⟨[.fn], false, none, [], 8⟩,
   some ⟨[.fn], false, none, [], 8⟩,
   some ⟨[.int .i64, .int .i64, .int .i64, .int .i64, .sl 5, .sl 5, .int .i64], true, none, [(0, 3), (1, 32)], 88⟩,
   some ⟨[.int .i64, .int .i64, .int .i64, .int .i64, .sl 5, .sl 5, .int .i64], true, none, [(0, 3), (1, 32)], 88⟩,
   some ⟨[.fn], false, none, [], 8⟩,
   some ⟨[.fn], false, none, [], 8⟩],
  [some ⟨[.fn], false, none, [], 8⟩,
   some ⟨[.fn], false, none, [], 8⟩,
   some ⟨[.ptr, .ptr, .ptr, .str], true, none, [(0, 17), (1, 17), (2, 17), (3, 9)], 40⟩,
   some ⟨[.ptr, .ptr, .ptr, .str], true, none, [(0, 17), (1, 17), (2, 17), (3, 9)], 40⟩,
   none,
   none,
   none,
   some ⟨[.int .u32], false, none, [], 4⟩,
   some ⟨[.int .u8], false, none, [], 1⟩,
   some ⟨[.int .u8], false, none, [], 1⟩,
   some ⟨[.fn], false, none, [], 8⟩,
   some ⟨[.ptr], false, none, [], 8⟩,
   some ⟨[.int .i32], false, none, [], 4⟩,
   some ⟨[.int .i32], false, none, [], 4⟩,
   some ⟨[.int .u64, .int .u64, .int .u32, .int .u8, .int .u8, .int .u8, .int .u8, .fn, .ptr, .int .i32, .int .i32], true, none, [(0, 12), (1, 12), (2, 215), (3, 216), (4, 5), (5, 5), (6, 217), (7, 218), (8, 219), (9, 220), (10, 221)], 48⟩,
   some ⟨[.int .u64, .int .u64, .int .u32, .int .u8, .int .u8, .int .u8, .int .u8, .fn, .ptr, .int .i32, .int .i32], true, none, [(0, 12), (1, 12), (2, 215), (3, 216), (4, 5), (5, 5), (6, 217), (7, 218), (8, 219), (9, 220), (10, 221)], 48⟩],
  [none,
   none,
   none,
   none,
   none,
   none,
   none,
   none,
   none,
   none,
   none,
   none,
   none,
   none,
   none,
   none]]
def tab : Tab := tabOf chunks
abbrev t_int' : TypeId := 3
abbrev Zc : TypeId := 5
abbrev ZbC : TypeId := 22
abbrev Zl : TypeId := 28
abbrev t_impl_Cmd : TypeId := 32
abbrev Zdw : TypeId := 36
abbrev Zd : TypeId := 53
abbrev Zg : TypeId := 55
abbrev Ze : TypeId := 57
abbrev Zf : TypeId := 98
abbrev ZM : TypeId := 105
def Za (x : V) : V := .agg [.int .i64 (gi x 0), .inl Zg (gl x 1), .inl Zf (gl x 2), .int .i64 (gi x 3), .inl Zd (gl x 4), .inl Ze (gl x 5)]
def n_impl_Op (x : V) : V := .agg [.int .i64 (gi x 0), .inl Zc (gl x 1), .inl Zc (gl x 2), .int .i64 (gi x 3)]
def Zt (x : V) : V := .agg [.int .i64 (gi x 0), .int .i64 (gi x 1), .int .i64 (gi x 2), .inl Zc (gl x 3), .inl Zc (gl x 4), .int .i64 (gi x 5)]
def Zx (x : V) : V := .agg [.int .i64 (gi x 0), .int .i64 (gi x 1)]
def Zcv (x : V) : V := .agg [.int .i64 (gi x 0), .bool (gb x 1)]
def n_impl_Row (x : V) : V := .agg [.inl Zc (gl x 0), .inl Zc (gl x 1), .int .i64 (gi x 2), .int .i64 (gi x 3)]
def Zap (x : V) : V := .agg [.int .i64 (gi x 0), .int .i64 (gi x 1), .int .i64 (gi x 2), .int .i64 (gi x 3)]
def n_impl_Tomb (x : V) : V := .agg [.inl Zc (gl x 0), .int .i64 (gi x 1)]
def Zb (x : V) : V := .agg [.inl Zc (gl x 0), .int .i64 (gi x 1), .int .i64 (gi x 2)]
abbrev vi (n : Int) : V := .int .i64 n
abbrev vs (k : Nat) (T : TypeId) : V := .sl k T 0 none
abbrev aliveB : Bool := true
def noL : Loops := ⟨fun _ => [], fun _ => [], fun _ => [], runL [], [], fun _ => []⟩
theorem ZaD {cfg : Cfg} {fn : Func} : ZE cfg noL (ZP fn) := GoodAll.ok (l := []) GoodAll.nil rfl
end Go.Eng.R
open Go Go.Eng
namespace Go.Eng.R
def ZbI : Nat → List V → Int → Int → Option (List V × Int)
  | 0, _, _, _ => none
  | k_ + 1, code0, h3, i4 =>
    bif (decide (i4 < ((code0.length : Nat) : Int))) then
      bif (decide (i4 < 4000)) then
        bif (Zm i4 code0.length) then
          ZbI k_ code0 (bAnd .i64 (IntKind.i64.wrap ((IntKind.i64.wrap ((IntKind.i64.wrap (h3 * 131)) + (IntKind.i64.wrap (gi (rd code0 i4.toNat) 0)))) + 7)) 1073741823) (IntKind.i64.wrap (i4 + 1))
        else none
      else some (code0, h3)
    else some (code0, h3)
def Zdx (code : List V) : Option (V) :=
  Option.bind (ZbI ((((code.length : Nat) : Int) - 0).toNat + 1) code (IntKind.i64.wrap (36565 + ((code.length : Nat) : Int))) 0) fun r1 =>
  some (V.agg [(V.inl Zc r1.1), (V.int .i64 0), (V.int .i64 r1.2)])
def ZbT (c : V) : Option (Int × V) :=
  bif (decide ((gi c 1) < (((gl c 0).length : Nat) : Int))) then
    bif (Zm (gi c 1) ((gl c 0).length)) then
      some ((bAnd .i64 (IntKind.i64.wrap ((bAnd .i64 (bXor .i64 (sShr .i64 (IntKind.i64.wrap ((IntKind.i64.wrap ((gi c 2) * 6364136223846793005)) + 1442695040888963407)) 33) (sShr .i64 (IntKind.i64.wrap ((IntKind.i64.wrap ((gi c 2) * 6364136223846793005)) + 1442695040888963407)) 45)) 255) + (IntKind.i64.wrap (gi (rd (gl c 0) ((gi c 1).toNat)) 0)))) 255), (V.agg [(V.inl Zc (gl c 0)), (V.int .i64 (IntKind.i64.wrap ((gi c 1) + 1))), (V.int .i64 (IntKind.i64.wrap ((IntKind.i64.wrap ((gi c 2) * 6364136223846793005)) + 1442695040888963407)))]))
    else none
  else some ((bAnd .i64 (bXor .i64 (sShr .i64 (IntKind.i64.wrap ((IntKind.i64.wrap ((gi c 2) * 6364136223846793005)) + 1442695040888963407)) 33) (sShr .i64 (IntKind.i64.wrap ((IntKind.i64.wrap ((gi c 2) * 6364136223846793005)) + 1442695040888963407)) 45)) 255), (V.agg [(V.inl Zc (gl c 0)), (V.int .i64 (gi c 1)), (V.int .i64 (IntKind.i64.wrap ((IntKind.i64.wrap ((gi c 2) * 6364136223846793005)) + 1442695040888963407)))]))
def Zh (c : V) (n : Int) : Option (Int × V) :=
  bif (decide (n ≤ 0)) then
    some (0, (Zb c))
  else bif (decide (n ≤ 256)) then
    Option.bind (ZbT (Zb c)) fun r3 =>
    bif (!(decide (n = 0))) then
      some ((r3.1.tmod n), (Zb r3.2))
    else none
  else Option.bind (ZbT (Zb c)) fun r4 =>
  Option.bind (ZbT (Zb r4.2)) fun r5 =>
  Option.bind (ZbT (Zb r5.2)) fun r6 =>
  Option.bind (ZbT (Zb r6.2)) fun r7 =>
  bif (!(decide (n = 0))) then
    some (((IntKind.i64.wrap ((IntKind.i64.wrap ((IntKind.i64.wrap ((IntKind.i64.wrap (r4.1 * 16777216)) + (IntKind.i64.wrap (r5.1 * 65536)))) + (IntKind.i64.wrap (r6.1 * 256)))) + r7.1)).tmod n), (Zb r7.2))
  else none
def Za3 (c : V) (list : List V) : Option (Int × V) :=
  Option.bind (Zh (Zb c) ((list.length : Nat) : Int)) fun r11 =>
  bif (Zm r11.1 list.length) then
    some ((gi (rd list r11.1.toNat) 0), (Zb r11.2))
  else none
def ZbX (c : V) : Option (List V × V) :=
  Option.bind (Zh (Zb c) 5) fun r13 =>
  bif (Zm r13.1 5) then
    some ((gs (rd [(V.str []), (V.str [(V.int .u8 120)]), (V.str [(V.int .u8 121)]), (V.str [(V.int .u8 0), (V.int .u8 255)]), (V.str [(V.int .u8 108), (V.int .u8 111), (V.int .u8 110), (V.int .u8 103), (V.int .u8 32), (V.int .u8 118), (V.int .u8 97), (V.int .u8 108), (V.int .u8 117), (V.int .u8 101)])] (0 + r13.1.toNat)) 0), (Zb r13.2))
  else none
def ZaM (c : V) : Option (List V × V) :=
  Option.bind (Zh (Zb c) 5) fun r15 =>
  bif (Zm r15.1 5) then
    some ((gs (rd [(V.str [(V.int .u8 97)]), (V.str [(V.int .u8 98)]), (V.str [(V.int .u8 99)]), (V.str [(V.int .u8 97), (V.int .u8 47), (V.int .u8 98)]), (V.str [(V.int .u8 100)])] (0 + r15.1.toNat)) 0), (Zb r15.2))
  else none
def spec_l2op (c : V) (index : Int) : Option (V × V) :=
  Option.bind (Za3 (Zb c) [(V.int .i64 1), (V.int .i64 1), (V.int .i64 1), (V.int .i64 2), (V.int .i64 3), (V.int .i64 3), (V.int .i64 4), (V.int .i64 5), (V.int .i64 6), (V.int .i64 6), (V.int .i64 7), (V.int .i64 0)]) fun r12 =>
  bif (decide (r12.1 = 1)) then
    Option.bind (ZbX (Zb r12.2)) fun r14 =>
    bif (!(decide (r12.1 = 0))) then
      bif (!(decide (r12.1 = 4))) then
        bif (!(decide (r12.1 = 5))) then
          Option.bind (ZaM (Zb r14.2)) fun r16 =>
          bif (decide (r12.1 = 4)) then
            Option.bind (Zh (Zb r16.2) 2) fun r17 =>
            some ((V.agg [(V.int .i64 r12.1), (V.inl Zc r16.1), (V.inl Zc r14.1), (V.int .i64 r17.1)]), (Zb r17.2))
          else bif (decide (r12.1 = 2)) then
            Option.bind (Zh (Zb r16.2) (IntKind.i64.wrap (index + 1))) fun r18 =>
            Option.bind (Zh (Zb r18.2) 2) fun r19 =>
            some ((V.agg [(V.int .i64 r12.1), (V.inl Zc r16.1), (V.inl Zc r14.1), (V.int .i64 (IntKind.i64.wrap (r18.1 * r19.1)))]), (Zb r19.2))
          else bif (decide (r12.1 = 5)) then
            Option.bind (Zh (Zb r16.2) 4) fun r20 =>
            bif (decide ((0 : Int) < index)) then
              Option.bind (Zh (Zb r20.2) index) fun r21 =>
              some ((V.agg [(V.int .i64 r12.1), (V.inl Zc r16.1), (V.inl Zc r14.1), (V.int .i64 (IntKind.i64.wrap (1 + r21.1)))]), (Zb r21.2))
            else some ((V.agg [(V.int .i64 r12.1), (V.inl Zc r16.1), (V.inl Zc r14.1), (V.int .i64 (IntKind.i64.wrap (1 + r20.1)))]), (Zb r20.2))
          else bif (decide (r12.1 = 6)) then
            Option.bind (Zh (Zb r16.2) 4) fun r22 =>
            bif (decide ((0 : Int) < index)) then
              Option.bind (Zh (Zb r22.2) index) fun r23 =>
              some ((V.agg [(V.int .i64 r12.1), (V.inl Zc r16.1), (V.inl Zc r14.1), (V.int .i64 (IntKind.i64.wrap (1 + r23.1)))]), (Zb r23.2))
            else some ((V.agg [(V.int .i64 r12.1), (V.inl Zc r16.1), (V.inl Zc r14.1), (V.int .i64 (IntKind.i64.wrap (1 + r22.1)))]), (Zb r22.2))
          else bif (decide (r12.1 = 7)) then
            Option.bind (Zh (Zb r16.2) 4) fun r24 =>
            bif (decide ((0 : Int) < index)) then
              Option.bind (Zh (Zb r24.2) index) fun r25 =>
              some ((V.agg [(V.int .i64 r12.1), (V.inl Zc r16.1), (V.inl Zc r14.1), (V.int .i64 (IntKind.i64.wrap (1 + r25.1)))]), (Zb r25.2))
            else some ((V.agg [(V.int .i64 r12.1), (V.inl Zc r16.1), (V.inl Zc r14.1), (V.int .i64 (IntKind.i64.wrap (1 + r24.1)))]), (Zb r24.2))
          else some ((V.agg [(V.int .i64 r12.1), (V.inl Zc r16.1), (V.inl Zc r14.1), (V.int .i64 0)]), (Zb r16.2))
        else bif (decide (r12.1 = 4)) then
          Option.bind (Zh (Zb r14.2) 2) fun r26 =>
          some ((V.agg [(V.int .i64 r12.1), (V.inl Zc []), (V.inl Zc r14.1), (V.int .i64 r26.1)]), (Zb r26.2))
        else bif (decide (r12.1 = 2)) then
          Option.bind (Zh (Zb r14.2) (IntKind.i64.wrap (index + 1))) fun r27 =>
          Option.bind (Zh (Zb r27.2) 2) fun r28 =>
          some ((V.agg [(V.int .i64 r12.1), (V.inl Zc []), (V.inl Zc r14.1), (V.int .i64 (IntKind.i64.wrap (r27.1 * r28.1)))]), (Zb r28.2))
        else bif (decide (r12.1 = 5)) then
          Option.bind (Zh (Zb r14.2) 4) fun r29 =>
          bif (decide ((0 : Int) < index)) then
            Option.bind (Zh (Zb r29.2) index) fun r30 =>
            some ((V.agg [(V.int .i64 r12.1), (V.inl Zc []), (V.inl Zc r14.1), (V.int .i64 (IntKind.i64.wrap (1 + r30.1)))]), (Zb r30.2))
          else some ((V.agg [(V.int .i64 r12.1), (V.inl Zc []), (V.inl Zc r14.1), (V.int .i64 (IntKind.i64.wrap (1 + r29.1)))]), (Zb r29.2))
        else bif (decide (r12.1 = 6)) then
          Option.bind (Zh (Zb r14.2) 4) fun r31 =>
          bif (decide ((0 : Int) < index)) then
            Option.bind (Zh (Zb r31.2) index) fun r32 =>
            some ((V.agg [(V.int .i64 r12.1), (V.inl Zc []), (V.inl Zc r14.1), (V.int .i64 (IntKind.i64.wrap (1 + r32.1)))]), (Zb r32.2))
          else some ((V.agg [(V.int .i64 r12.1), (V.inl Zc []), (V.inl Zc r14.1), (V.int .i64 (IntKind.i64.wrap (1 + r31.1)))]), (Zb r31.2))
        else bif (decide (r12.1 = 7)) then
          Option.bind (Zh (Zb r14.2) 4) fun r33 =>
          bif (decide ((0 : Int) < index)) then
            Option.bind (Zh (Zb r33.2) index) fun r34 =>
            some ((V.agg [(V.int .i64 r12.1), (V.inl Zc []), (V.inl Zc r14.1), (V.int .i64 (IntKind.i64.wrap (1 + r34.1)))]), (Zb r34.2))
          else some ((V.agg [(V.int .i64 r12.1), (V.inl Zc []), (V.inl Zc r14.1), (V.int .i64 (IntKind.i64.wrap (1 + r33.1)))]), (Zb r33.2))
        else some ((V.agg [(V.int .i64 r12.1), (V.inl Zc []), (V.inl Zc r14.1), (V.int .i64 0)]), (Zb r14.2))
      else bif (decide (r12.1 = 4)) then
        Option.bind (Zh (Zb r14.2) 2) fun r35 =>
        some ((V.agg [(V.int .i64 r12.1), (V.inl Zc []), (V.inl Zc r14.1), (V.int .i64 r35.1)]), (Zb r35.2))
      else bif (decide (r12.1 = 2)) then
        Option.bind (Zh (Zb r14.2) (IntKind.i64.wrap (index + 1))) fun r36 =>
        Option.bind (Zh (Zb r36.2) 2) fun r37 =>
        some ((V.agg [(V.int .i64 r12.1), (V.inl Zc []), (V.inl Zc r14.1), (V.int .i64 (IntKind.i64.wrap (r36.1 * r37.1)))]), (Zb r37.2))
      else bif (decide (r12.1 = 5)) then
        Option.bind (Zh (Zb r14.2) 4) fun r38 =>
        bif (decide ((0 : Int) < index)) then
          Option.bind (Zh (Zb r38.2) index) fun r39 =>
          some ((V.agg [(V.int .i64 r12.1), (V.inl Zc []), (V.inl Zc r14.1), (V.int .i64 (IntKind.i64.wrap (1 + r39.1)))]), (Zb r39.2))
        else some ((V.agg [(V.int .i64 r12.1), (V.inl Zc []), (V.inl Zc r14.1), (V.int .i64 (IntKind.i64.wrap (1 + r38.1)))]), (Zb r38.2))
      else bif (decide (r12.1 = 6)) then
        Option.bind (Zh (Zb r14.2) 4) fun r40 =>
        bif (decide ((0 : Int) < index)) then
          Option.bind (Zh (Zb r40.2) index) fun r41 =>
          some ((V.agg [(V.int .i64 r12.1), (V.inl Zc []), (V.inl Zc r14.1), (V.int .i64 (IntKind.i64.wrap (1 + r41.1)))]), (Zb r41.2))
        else some ((V.agg [(V.int .i64 r12.1), (V.inl Zc []), (V.inl Zc r14.1), (V.int .i64 (IntKind.i64.wrap (1 + r40.1)))]), (Zb r40.2))
      else bif (decide (r12.1 = 7)) then
        Option.bind (Zh (Zb r14.2) 4) fun r42 =>
        bif (decide ((0 : Int) < index)) then
          Option.bind (Zh (Zb r42.2) index) fun r43 =>
          some ((V.agg [(V.int .i64 r12.1), (V.inl Zc []), (V.inl Zc r14.1), (V.int .i64 (IntKind.i64.wrap (1 + r43.1)))]), (Zb r43.2))
        else some ((V.agg [(V.int .i64 r12.1), (V.inl Zc []), (V.inl Zc r14.1), (V.int .i64 (IntKind.i64.wrap (1 + r42.1)))]), (Zb r42.2))
      else some ((V.agg [(V.int .i64 r12.1), (V.inl Zc []), (V.inl Zc r14.1), (V.int .i64 0)]), (Zb r14.2))
    else bif (decide (r12.1 = 4)) then
      Option.bind (Zh (Zb r14.2) 2) fun r44 =>
      some ((V.agg [(V.int .i64 r12.1), (V.inl Zc []), (V.inl Zc r14.1), (V.int .i64 r44.1)]), (Zb r44.2))
    else bif (decide (r12.1 = 2)) then
      Option.bind (Zh (Zb r14.2) (IntKind.i64.wrap (index + 1))) fun r45 =>
      Option.bind (Zh (Zb r45.2) 2) fun r46 =>
      some ((V.agg [(V.int .i64 r12.1), (V.inl Zc []), (V.inl Zc r14.1), (V.int .i64 (IntKind.i64.wrap (r45.1 * r46.1)))]), (Zb r46.2))
    else bif (decide (r12.1 = 5)) then
      Option.bind (Zh (Zb r14.2) 4) fun r47 =>
      bif (decide ((0 : Int) < index)) then
        Option.bind (Zh (Zb r47.2) index) fun r48 =>
        some ((V.agg [(V.int .i64 r12.1), (V.inl Zc []), (V.inl Zc r14.1), (V.int .i64 (IntKind.i64.wrap (1 + r48.1)))]), (Zb r48.2))
      else some ((V.agg [(V.int .i64 r12.1), (V.inl Zc []), (V.inl Zc r14.1), (V.int .i64 (IntKind.i64.wrap (1 + r47.1)))]), (Zb r47.2))
    else bif (decide (r12.1 = 6)) then
      Option.bind (Zh (Zb r14.2) 4) fun r49 =>
      bif (decide ((0 : Int) < index)) then
        Option.bind (Zh (Zb r49.2) index) fun r50 =>
        some ((V.agg [(V.int .i64 r12.1), (V.inl Zc []), (V.inl Zc r14.1), (V.int .i64 (IntKind.i64.wrap (1 + r50.1)))]), (Zb r50.2))
      else some ((V.agg [(V.int .i64 r12.1), (V.inl Zc []), (V.inl Zc r14.1), (V.int .i64 (IntKind.i64.wrap (1 + r49.1)))]), (Zb r49.2))
    else bif (decide (r12.1 = 7)) then
      Option.bind (Zh (Zb r14.2) 4) fun r51 =>
      bif (decide ((0 : Int) < index)) then
        Option.bind (Zh (Zb r51.2) index) fun r52 =>
        some ((V.agg [(V.int .i64 r12.1), (V.inl Zc []), (V.inl Zc r14.1), (V.int .i64 (IntKind.i64.wrap (1 + r52.1)))]), (Zb r52.2))
      else some ((V.agg [(V.int .i64 r12.1), (V.inl Zc []), (V.inl Zc r14.1), (V.int .i64 (IntKind.i64.wrap (1 + r51.1)))]), (Zb r51.2))
    else some ((V.agg [(V.int .i64 r12.1), (V.inl Zc []), (V.inl Zc r14.1), (V.int .i64 0)]), (Zb r14.2))
  else bif (decide (r12.1 = 2)) then
    Option.bind (ZbX (Zb r12.2)) fun r53 =>
    bif (!(decide (r12.1 = 0))) then
      bif (!(decide (r12.1 = 4))) then
        bif (!(decide (r12.1 = 5))) then
          Option.bind (ZaM (Zb r53.2)) fun r54 =>
          bif (decide (r12.1 = 4)) then
            Option.bind (Zh (Zb r54.2) 2) fun r55 =>
            some ((V.agg [(V.int .i64 r12.1), (V.inl Zc r54.1), (V.inl Zc r53.1), (V.int .i64 r55.1)]), (Zb r55.2))
          else bif (decide (r12.1 = 2)) then
            Option.bind (Zh (Zb r54.2) (IntKind.i64.wrap (index + 1))) fun r56 =>
            Option.bind (Zh (Zb r56.2) 2) fun r57 =>
            some ((V.agg [(V.int .i64 r12.1), (V.inl Zc r54.1), (V.inl Zc r53.1), (V.int .i64 (IntKind.i64.wrap (r56.1 * r57.1)))]), (Zb r57.2))
          else bif (decide (r12.1 = 5)) then
            Option.bind (Zh (Zb r54.2) 4) fun r58 =>
            bif (decide ((0 : Int) < index)) then
              Option.bind (Zh (Zb r58.2) index) fun r59 =>
              some ((V.agg [(V.int .i64 r12.1), (V.inl Zc r54.1), (V.inl Zc r53.1), (V.int .i64 (IntKind.i64.wrap (1 + r59.1)))]), (Zb r59.2))
            else some ((V.agg [(V.int .i64 r12.1), (V.inl Zc r54.1), (V.inl Zc r53.1), (V.int .i64 (IntKind.i64.wrap (1 + r58.1)))]), (Zb r58.2))
          else bif (decide (r12.1 = 6)) then
            Option.bind (Zh (Zb r54.2) 4) fun r60 =>
            bif (decide ((0 : Int) < index)) then
              Option.bind (Zh (Zb r60.2) index) fun r61 =>
              some ((V.agg [(V.int .i64 r12.1), (V.inl Zc r54.1), (V.inl Zc r53.1), (V.int .i64 (IntKind.i64.wrap (1 + r61.1)))]), (Zb r61.2))
            else some ((V.agg [(V.int .i64 r12.1), (V.inl Zc r54.1), (V.inl Zc r53.1), (V.int .i64 (IntKind.i64.wrap (1 + r60.1)))]), (Zb r60.2))
          else bif (decide (r12.1 = 7)) then
            Option.bind (Zh (Zb r54.2) 4) fun r62 =>
            bif (decide ((0 : Int) < index)) then
              Option.bind (Zh (Zb r62.2) index) fun r63 =>
              some ((V.agg [(V.int .i64 r12.1), (V.inl Zc r54.1), (V.inl Zc r53.1), (V.int .i64 (IntKind.i64.wrap (1 + r63.1)))]), (Zb r63.2))
            else some ((V.agg [(V.int .i64 r12.1), (V.inl Zc r54.1), (V.inl Zc r53.1), (V.int .i64 (IntKind.i64.wrap (1 + r62.1)))]), (Zb r62.2))
          else some ((V.agg [(V.int .i64 r12.1), (V.inl Zc r54.1), (V.inl Zc r53.1), (V.int .i64 0)]), (Zb r54.2))
        else bif (decide (r12.1 = 4)) then
          Option.bind (Zh (Zb r53.2) 2) fun r64 =>
          some ((V.agg [(V.int .i64 r12.1), (V.inl Zc []), (V.inl Zc r53.1), (V.int .i64 r64.1)]), (Zb r64.2))
        else bif (decide (r12.1 = 2)) then
          Option.bind (Zh (Zb r53.2) (IntKind.i64.wrap (index + 1))) fun r65 =>
          Option.bind (Zh (Zb r65.2) 2) fun r66 =>
          some ((V.agg [(V.int .i64 r12.1), (V.inl Zc []), (V.inl Zc r53.1), (V.int .i64 (IntKind.i64.wrap (r65.1 * r66.1)))]), (Zb r66.2))
        else bif (decide (r12.1 = 5)) then
          Option.bind (Zh (Zb r53.2) 4) fun r67 =>
          bif (decide ((0 : Int) < index)) then
            Option.bind (Zh (Zb r67.2) index) fun r68 =>
            some ((V.agg [(V.int .i64 r12.1), (V.inl Zc []), (V.inl Zc r53.1), (V.int .i64 (IntKind.i64.wrap (1 + r68.1)))]), (Zb r68.2))
          else some ((V.agg [(V.int .i64 r12.1), (V.inl Zc []), (V.inl Zc r53.1), (V.int .i64 (IntKind.i64.wrap (1 + r67.1)))]), (Zb r67.2))
        else bif (decide (r12.1 = 6)) then
          Option.bind (Zh (Zb r53.2) 4) fun r69 =>
          bif (decide ((0 : Int) < index)) then
            Option.bind (Zh (Zb r69.2) index) fun r70 =>
            some ((V.agg [(V.int .i64 r12.1), (V.inl Zc []), (V.inl Zc r53.1), (V.int .i64 (IntKind.i64.wrap (1 + r70.1)))]), (Zb r70.2))
          else some ((V.agg [(V.int .i64 r12.1), (V.inl Zc []), (V.inl Zc r53.1), (V.int .i64 (IntKind.i64.wrap (1 + r69.1)))]), (Zb r69.2))
        else bif (decide (r12.1 = 7)) then
          Option.bind (Zh (Zb r53.2) 4) fun r71 =>
          bif (decide ((0 : Int) < index)) then
            Option.bind (Zh (Zb r71.2) index) fun r72 =>
            some ((V.agg [(V.int .i64 r12.1), (V.inl Zc []), (V.inl Zc r53.1), (V.int .i64 (IntKind.i64.wrap (1 + r72.1)))]), (Zb r72.2))
          else some ((V.agg [(V.int .i64 r12.1), (V.inl Zc []), (V.inl Zc r53.1), (V.int .i64 (IntKind.i64.wrap (1 + r71.1)))]), (Zb r71.2))
        else some ((V.agg [(V.int .i64 r12.1), (V.inl Zc []), (V.inl Zc r53.1), (V.int .i64 0)]), (Zb r53.2))
      else bif (decide (r12.1 = 4)) then
        Option.bind (Zh (Zb r53.2) 2) fun r73 =>
        some ((V.agg [(V.int .i64 r12.1), (V.inl Zc []), (V.inl Zc r53.1), (V.int .i64 r73.1)]), (Zb r73.2))
      else bif (decide (r12.1 = 2)) then
        Option.bind (Zh (Zb r53.2) (IntKind.i64.wrap (index + 1))) fun r74 =>
        Option.bind (Zh (Zb r74.2) 2) fun r75 =>
        some ((V.agg [(V.int .i64 r12.1), (V.inl Zc []), (V.inl Zc r53.1), (V.int .i64 (IntKind.i64.wrap (r74.1 * r75.1)))]), (Zb r75.2))
      else bif (decide (r12.1 = 5)) then
        Option.bind (Zh (Zb r53.2) 4) fun r76 =>
        bif (decide ((0 : Int) < index)) then
          Option.bind (Zh (Zb r76.2) index) fun r77 =>
          some ((V.agg [(V.int .i64 r12.1), (V.inl Zc []), (V.inl Zc r53.1), (V.int .i64 (IntKind.i64.wrap (1 + r77.1)))]), (Zb r77.2))
        else some ((V.agg [(V.int .i64 r12.1), (V.inl Zc []), (V.inl Zc r53.1), (V.int .i64 (IntKind.i64.wrap (1 + r76.1)))]), (Zb r76.2))
      else bif (decide (r12.1 = 6)) then
        Option.bind (Zh (Zb r53.2) 4) fun r78 =>
        bif (decide ((0 : Int) < index)) then
          Option.bind (Zh (Zb r78.2) index) fun r79 =>
          some ((V.agg [(V.int .i64 r12.1), (V.inl Zc []), (V.inl Zc r53.1), (V.int .i64 (IntKind.i64.wrap (1 + r79.1)))]), (Zb r79.2))
        else some ((V.agg [(V.int .i64 r12.1), (V.inl Zc []), (V.inl Zc r53.1), (V.int .i64 (IntKind.i64.wrap (1 + r78.1)))]), (Zb r78.2))
      else bif (decide (r12.1 = 7)) then
        Option.bind (Zh (Zb r53.2) 4) fun r80 =>
        bif (decide ((0 : Int) < index)) then
          Option.bind (Zh (Zb r80.2) index) fun r81 =>
          some ((V.agg [(V.int .i64 r12.1), (V.inl Zc []), (V.inl Zc r53.1), (V.int .i64 (IntKind.i64.wrap (1 + r81.1)))]), (Zb r81.2))
        else some ((V.agg [(V.int .i64 r12.1), (V.inl Zc []), (V.inl Zc r53.1), (V.int .i64 (IntKind.i64.wrap (1 + r80.1)))]), (Zb r80.2))
      else some ((V.agg [(V.int .i64 r12.1), (V.inl Zc []), (V.inl Zc r53.1), (V.int .i64 0)]), (Zb r53.2))
    else bif (decide (r12.1 = 4)) then
      Option.bind (Zh (Zb r53.2) 2) fun r82 =>
      some ((V.agg [(V.int .i64 r12.1), (V.inl Zc []), (V.inl Zc r53.1), (V.int .i64 r82.1)]), (Zb r82.2))
    else bif (decide (r12.1 = 2)) then
      Option.bind (Zh (Zb r53.2) (IntKind.i64.wrap (index + 1))) fun r83 =>
      Option.bind (Zh (Zb r83.2) 2) fun r84 =>
      some ((V.agg [(V.int .i64 r12.1), (V.inl Zc []), (V.inl Zc r53.1), (V.int .i64 (IntKind.i64.wrap (r83.1 * r84.1)))]), (Zb r84.2))
    else bif (decide (r12.1 = 5)) then
      Option.bind (Zh (Zb r53.2) 4) fun r85 =>
      bif (decide ((0 : Int) < index)) then
        Option.bind (Zh (Zb r85.2) index) fun r86 =>
        some ((V.agg [(V.int .i64 r12.1), (V.inl Zc []), (V.inl Zc r53.1), (V.int .i64 (IntKind.i64.wrap (1 + r86.1)))]), (Zb r86.2))
      else some ((V.agg [(V.int .i64 r12.1), (V.inl Zc []), (V.inl Zc r53.1), (V.int .i64 (IntKind.i64.wrap (1 + r85.1)))]), (Zb r85.2))
    else bif (decide (r12.1 = 6)) then
      Option.bind (Zh (Zb r53.2) 4) fun r87 =>
      bif (decide ((0 : Int) < index)) then
        Option.bind (Zh (Zb r87.2) index) fun r88 =>
        some ((V.agg [(V.int .i64 r12.1), (V.inl Zc []), (V.inl Zc r53.1), (V.int .i64 (IntKind.i64.wrap (1 + r88.1)))]), (Zb r88.2))
      else some ((V.agg [(V.int .i64 r12.1), (V.inl Zc []), (V.inl Zc r53.1), (V.int .i64 (IntKind.i64.wrap (1 + r87.1)))]), (Zb r87.2))
    else bif (decide (r12.1 = 7)) then
      Option.bind (Zh (Zb r53.2) 4) fun r89 =>
      bif (decide ((0 : Int) < index)) then
        Option.bind (Zh (Zb r89.2) index) fun r90 =>
        some ((V.agg [(V.int .i64 r12.1), (V.inl Zc []), (V.inl Zc r53.1), (V.int .i64 (IntKind.i64.wrap (1 + r90.1)))]), (Zb r90.2))
      else some ((V.agg [(V.int .i64 r12.1), (V.inl Zc []), (V.inl Zc r53.1), (V.int .i64 (IntKind.i64.wrap (1 + r89.1)))]), (Zb r89.2))
    else some ((V.agg [(V.int .i64 r12.1), (V.inl Zc []), (V.inl Zc r53.1), (V.int .i64 0)]), (Zb r53.2))
  else bif (decide (r12.1 = 6)) then
    Option.bind (ZbX (Zb r12.2)) fun r91 =>
    bif (!(decide (r12.1 = 0))) then
      bif (!(decide (r12.1 = 4))) then
        bif (!(decide (r12.1 = 5))) then
          Option.bind (ZaM (Zb r91.2)) fun r92 =>
          bif (decide (r12.1 = 4)) then
            Option.bind (Zh (Zb r92.2) 2) fun r93 =>
            some ((V.agg [(V.int .i64 r12.1), (V.inl Zc r92.1), (V.inl Zc r91.1), (V.int .i64 r93.1)]), (Zb r93.2))
          else bif (decide (r12.1 = 2)) then
            Option.bind (Zh (Zb r92.2) (IntKind.i64.wrap (index + 1))) fun r94 =>
            Option.bind (Zh (Zb r94.2) 2) fun r95 =>
            some ((V.agg [(V.int .i64 r12.1), (V.inl Zc r92.1), (V.inl Zc r91.1), (V.int .i64 (IntKind.i64.wrap (r94.1 * r95.1)))]), (Zb r95.2))
          else bif (decide (r12.1 = 5)) then
            Option.bind (Zh (Zb r92.2) 4) fun r96 =>
            bif (decide ((0 : Int) < index)) then
              Option.bind (Zh (Zb r96.2) index) fun r97 =>
              some ((V.agg [(V.int .i64 r12.1), (V.inl Zc r92.1), (V.inl Zc r91.1), (V.int .i64 (IntKind.i64.wrap (1 + r97.1)))]), (Zb r97.2))
            else some ((V.agg [(V.int .i64 r12.1), (V.inl Zc r92.1), (V.inl Zc r91.1), (V.int .i64 (IntKind.i64.wrap (1 + r96.1)))]), (Zb r96.2))
          else bif (decide (r12.1 = 6)) then
            Option.bind (Zh (Zb r92.2) 4) fun r98 =>
            bif (decide ((0 : Int) < index)) then
              Option.bind (Zh (Zb r98.2) index) fun r99 =>
              some ((V.agg [(V.int .i64 r12.1), (V.inl Zc r92.1), (V.inl Zc r91.1), (V.int .i64 (IntKind.i64.wrap (1 + r99.1)))]), (Zb r99.2))
            else some ((V.agg [(V.int .i64 r12.1), (V.inl Zc r92.1), (V.inl Zc r91.1), (V.int .i64 (IntKind.i64.wrap (1 + r98.1)))]), (Zb r98.2))
          else bif (decide (r12.1 = 7)) then
            Option.bind (Zh (Zb r92.2) 4) fun r100 =>
            bif (decide ((0 : Int) < index)) then
              Option.bind (Zh (Zb r100.2) index) fun r101 =>
              some ((V.agg [(V.int .i64 r12.1), (V.inl Zc r92.1), (V.inl Zc r91.1), (V.int .i64 (IntKind.i64.wrap (1 + r101.1)))]), (Zb r101.2))
            else some ((V.agg [(V.int .i64 r12.1), (V.inl Zc r92.1), (V.inl Zc r91.1), (V.int .i64 (IntKind.i64.wrap (1 + r100.1)))]), (Zb r100.2))
          else some ((V.agg [(V.int .i64 r12.1), (V.inl Zc r92.1), (V.inl Zc r91.1), (V.int .i64 0)]), (Zb r92.2))
        else bif (decide (r12.1 = 4)) then
          Option.bind (Zh (Zb r91.2) 2) fun r102 =>
          some ((V.agg [(V.int .i64 r12.1), (V.inl Zc []), (V.inl Zc r91.1), (V.int .i64 r102.1)]), (Zb r102.2))
        else bif (decide (r12.1 = 2)) then
          Option.bind (Zh (Zb r91.2) (IntKind.i64.wrap (index + 1))) fun r103 =>
          Option.bind (Zh (Zb r103.2) 2) fun r104 =>
          some ((V.agg [(V.int .i64 r12.1), (V.inl Zc []), (V.inl Zc r91.1), (V.int .i64 (IntKind.i64.wrap (r103.1 * r104.1)))]), (Zb r104.2))
        else bif (decide (r12.1 = 5)) then
          Option.bind (Zh (Zb r91.2) 4) fun r105 =>
          bif (decide ((0 : Int) < index)) then
            Option.bind (Zh (Zb r105.2) index) fun r106 =>
            some ((V.agg [(V.int .i64 r12.1), (V.inl Zc []), (V.inl Zc r91.1), (V.int .i64 (IntKind.i64.wrap (1 + r106.1)))]), (Zb r106.2))
          else some ((V.agg [(V.int .i64 r12.1), (V.inl Zc []), (V.inl Zc r91.1), (V.int .i64 (IntKind.i64.wrap (1 + r105.1)))]), (Zb r105.2))
        else bif (decide (r12.1 = 6)) then
          Option.bind (Zh (Zb r91.2) 4) fun r107 =>
          bif (decide ((0 : Int) < index)) then
            Option.bind (Zh (Zb r107.2) index) fun r108 =>
            some ((V.agg [(V.int .i64 r12.1), (V.inl Zc []), (V.inl Zc r91.1), (V.int .i64 (IntKind.i64.wrap (1 + r108.1)))]), (Zb r108.2))
          else some ((V.agg [(V.int .i64 r12.1), (V.inl Zc []), (V.inl Zc r91.1), (V.int .i64 (IntKind.i64.wrap (1 + r107.1)))]), (Zb r107.2))
        else bif (decide (r12.1 = 7)) then
          Option.bind (Zh (Zb r91.2) 4) fun r109 =>
          bif (decide ((0 : Int) < index)) then
            Option.bind (Zh (Zb r109.2) index) fun r110 =>
            some ((V.agg [(V.int .i64 r12.1), (V.inl Zc []), (V.inl Zc r91.1), (V.int .i64 (IntKind.i64.wrap (1 + r110.1)))]), (Zb r110.2))
          else some ((V.agg [(V.int .i64 r12.1), (V.inl Zc []), (V.inl Zc r91.1), (V.int .i64 (IntKind.i64.wrap (1 + r109.1)))]), (Zb r109.2))
        else some ((V.agg [(V.int .i64 r12.1), (V.inl Zc []), (V.inl Zc r91.1), (V.int .i64 0)]), (Zb r91.2))
      else bif (decide (r12.1 = 4)) then
        Option.bind (Zh (Zb r91.2) 2) fun r111 =>
        some ((V.agg [(V.int .i64 r12.1), (V.inl Zc []), (V.inl Zc r91.1), (V.int .i64 r111.1)]), (Zb r111.2))
      else bif (decide (r12.1 = 2)) then
        Option.bind (Zh (Zb r91.2) (IntKind.i64.wrap (index + 1))) fun r112 =>
        Option.bind (Zh (Zb r112.2) 2) fun r113 =>
        some ((V.agg [(V.int .i64 r12.1), (V.inl Zc []), (V.inl Zc r91.1), (V.int .i64 (IntKind.i64.wrap (r112.1 * r113.1)))]), (Zb r113.2))
      else bif (decide (r12.1 = 5)) then
        Option.bind (Zh (Zb r91.2) 4) fun r114 =>
        bif (decide ((0 : Int) < index)) then
          Option.bind (Zh (Zb r114.2) index) fun r115 =>
          some ((V.agg [(V.int .i64 r12.1), (V.inl Zc []), (V.inl Zc r91.1), (V.int .i64 (IntKind.i64.wrap (1 + r115.1)))]), (Zb r115.2))
        else some ((V.agg [(V.int .i64 r12.1), (V.inl Zc []), (V.inl Zc r91.1), (V.int .i64 (IntKind.i64.wrap (1 + r114.1)))]), (Zb r114.2))
      else bif (decide (r12.1 = 6)) then
        Option.bind (Zh (Zb r91.2) 4) fun r116 =>
        bif (decide ((0 : Int) < index)) then
          Option.bind (Zh (Zb r116.2) index) fun r117 =>
          some ((V.agg [(V.int .i64 r12.1), (V.inl Zc []), (V.inl Zc r91.1), (V.int .i64 (IntKind.i64.wrap (1 + r117.1)))]), (Zb r117.2))
        else some ((V.agg [(V.int .i64 r12.1), (V.inl Zc []), (V.inl Zc r91.1), (V.int .i64 (IntKind.i64.wrap (1 + r116.1)))]), (Zb r116.2))
      else bif (decide (r12.1 = 7)) then
        Option.bind (Zh (Zb r91.2) 4) fun r118 =>
        bif (decide ((0 : Int) < index)) then
          Option.bind (Zh (Zb r118.2) index) fun r119 =>
          some ((V.agg [(V.int .i64 r12.1), (V.inl Zc []), (V.inl Zc r91.1), (V.int .i64 (IntKind.i64.wrap (1 + r119.1)))]), (Zb r119.2))
        else some ((V.agg [(V.int .i64 r12.1), (V.inl Zc []), (V.inl Zc r91.1), (V.int .i64 (IntKind.i64.wrap (1 + r118.1)))]), (Zb r118.2))
      else some ((V.agg [(V.int .i64 r12.1), (V.inl Zc []), (V.inl Zc r91.1), (V.int .i64 0)]), (Zb r91.2))
    else bif (decide (r12.1 = 4)) then
      Option.bind (Zh (Zb r91.2) 2) fun r120 =>
      some ((V.agg [(V.int .i64 r12.1), (V.inl Zc []), (V.inl Zc r91.1), (V.int .i64 r120.1)]), (Zb r120.2))
    else bif (decide (r12.1 = 2)) then
      Option.bind (Zh (Zb r91.2) (IntKind.i64.wrap (index + 1))) fun r121 =>
      Option.bind (Zh (Zb r121.2) 2) fun r122 =>
      some ((V.agg [(V.int .i64 r12.1), (V.inl Zc []), (V.inl Zc r91.1), (V.int .i64 (IntKind.i64.wrap (r121.1 * r122.1)))]), (Zb r122.2))
    else bif (decide (r12.1 = 5)) then
      Option.bind (Zh (Zb r91.2) 4) fun r123 =>
      bif (decide ((0 : Int) < index)) then
        Option.bind (Zh (Zb r123.2) index) fun r124 =>
        some ((V.agg [(V.int .i64 r12.1), (V.inl Zc []), (V.inl Zc r91.1), (V.int .i64 (IntKind.i64.wrap (1 + r124.1)))]), (Zb r124.2))
      else some ((V.agg [(V.int .i64 r12.1), (V.inl Zc []), (V.inl Zc r91.1), (V.int .i64 (IntKind.i64.wrap (1 + r123.1)))]), (Zb r123.2))
    else bif (decide (r12.1 = 6)) then
      Option.bind (Zh (Zb r91.2) 4) fun r125 =>
      bif (decide ((0 : Int) < index)) then
        Option.bind (Zh (Zb r125.2) index) fun r126 =>
        some ((V.agg [(V.int .i64 r12.1), (V.inl Zc []), (V.inl Zc r91.1), (V.int .i64 (IntKind.i64.wrap (1 + r126.1)))]), (Zb r126.2))
      else some ((V.agg [(V.int .i64 r12.1), (V.inl Zc []), (V.inl Zc r91.1), (V.int .i64 (IntKind.i64.wrap (1 + r125.1)))]), (Zb r125.2))
    else bif (decide (r12.1 = 7)) then
      Option.bind (Zh (Zb r91.2) 4) fun r127 =>
      bif (decide ((0 : Int) < index)) then
        Option.bind (Zh (Zb r127.2) index) fun r128 =>
        some ((V.agg [(V.int .i64 r12.1), (V.inl Zc []), (V.inl Zc r91.1), (V.int .i64 (IntKind.i64.wrap (1 + r128.1)))]), (Zb r128.2))
      else some ((V.agg [(V.int .i64 r12.1), (V.inl Zc []), (V.inl Zc r91.1), (V.int .i64 (IntKind.i64.wrap (1 + r127.1)))]), (Zb r127.2))
    else some ((V.agg [(V.int .i64 r12.1), (V.inl Zc []), (V.inl Zc r91.1), (V.int .i64 0)]), (Zb r91.2))
  else bif (!(decide (r12.1 = 0))) then
    bif (!(decide (r12.1 = 4))) then
      bif (!(decide (r12.1 = 5))) then
        Option.bind (ZaM (Zb r12.2)) fun r129 =>
        bif (decide (r12.1 = 4)) then
          Option.bind (Zh (Zb r129.2) 2) fun r130 =>
          some ((V.agg [(V.int .i64 r12.1), (V.inl Zc r129.1), (V.inl Zc []), (V.int .i64 r130.1)]), (Zb r130.2))
        else bif (decide (r12.1 = 2)) then
          Option.bind (Zh (Zb r129.2) (IntKind.i64.wrap (index + 1))) fun r131 =>
          Option.bind (Zh (Zb r131.2) 2) fun r132 =>
          some ((V.agg [(V.int .i64 r12.1), (V.inl Zc r129.1), (V.inl Zc []), (V.int .i64 (IntKind.i64.wrap (r131.1 * r132.1)))]), (Zb r132.2))
        else bif (decide (r12.1 = 5)) then
          Option.bind (Zh (Zb r129.2) 4) fun r133 =>
          bif (decide ((0 : Int) < index)) then
            Option.bind (Zh (Zb r133.2) index) fun r134 =>
            some ((V.agg [(V.int .i64 r12.1), (V.inl Zc r129.1), (V.inl Zc []), (V.int .i64 (IntKind.i64.wrap (1 + r134.1)))]), (Zb r134.2))
          else some ((V.agg [(V.int .i64 r12.1), (V.inl Zc r129.1), (V.inl Zc []), (V.int .i64 (IntKind.i64.wrap (1 + r133.1)))]), (Zb r133.2))
        else bif (decide (r12.1 = 6)) then
          Option.bind (Zh (Zb r129.2) 4) fun r135 =>
          bif (decide ((0 : Int) < index)) then
            Option.bind (Zh (Zb r135.2) index) fun r136 =>
            some ((V.agg [(V.int .i64 r12.1), (V.inl Zc r129.1), (V.inl Zc []), (V.int .i64 (IntKind.i64.wrap (1 + r136.1)))]), (Zb r136.2))
          else some ((V.agg [(V.int .i64 r12.1), (V.inl Zc r129.1), (V.inl Zc []), (V.int .i64 (IntKind.i64.wrap (1 + r135.1)))]), (Zb r135.2))
        else bif (decide (r12.1 = 7)) then
          Option.bind (Zh (Zb r129.2) 4) fun r137 =>
          bif (decide ((0 : Int) < index)) then
            Option.bind (Zh (Zb r137.2) index) fun r138 =>
            some ((V.agg [(V.int .i64 r12.1), (V.inl Zc r129.1), (V.inl Zc []), (V.int .i64 (IntKind.i64.wrap (1 + r138.1)))]), (Zb r138.2))
          else some ((V.agg [(V.int .i64 r12.1), (V.inl Zc r129.1), (V.inl Zc []), (V.int .i64 (IntKind.i64.wrap (1 + r137.1)))]), (Zb r137.2))
        else some ((V.agg [(V.int .i64 r12.1), (V.inl Zc r129.1), (V.inl Zc []), (V.int .i64 0)]), (Zb r129.2))
      else bif (decide (r12.1 = 4)) then
        Option.bind (Zh (Zb r12.2) 2) fun r139 =>
        some ((V.agg [(V.int .i64 r12.1), (V.inl Zc []), (V.inl Zc []), (V.int .i64 r139.1)]), (Zb r139.2))
      else bif (decide (r12.1 = 2)) then
        Option.bind (Zh (Zb r12.2) (IntKind.i64.wrap (index + 1))) fun r140 =>
        Option.bind (Zh (Zb r140.2) 2) fun r141 =>
        some ((V.agg [(V.int .i64 r12.1), (V.inl Zc []), (V.inl Zc []), (V.int .i64 (IntKind.i64.wrap (r140.1 * r141.1)))]), (Zb r141.2))
      else bif (decide (r12.1 = 5)) then
        Option.bind (Zh (Zb r12.2) 4) fun r142 =>
        bif (decide ((0 : Int) < index)) then
          Option.bind (Zh (Zb r142.2) index) fun r143 =>
          some ((V.agg [(V.int .i64 r12.1), (V.inl Zc []), (V.inl Zc []), (V.int .i64 (IntKind.i64.wrap (1 + r143.1)))]), (Zb r143.2))
        else some ((V.agg [(V.int .i64 r12.1), (V.inl Zc []), (V.inl Zc []), (V.int .i64 (IntKind.i64.wrap (1 + r142.1)))]), (Zb r142.2))
      else bif (decide (r12.1 = 6)) then
        Option.bind (Zh (Zb r12.2) 4) fun r144 =>
        bif (decide ((0 : Int) < index)) then
          Option.bind (Zh (Zb r144.2) index) fun r145 =>
          some ((V.agg [(V.int .i64 r12.1), (V.inl Zc []), (V.inl Zc []), (V.int .i64 (IntKind.i64.wrap (1 + r145.1)))]), (Zb r145.2))
        else some ((V.agg [(V.int .i64 r12.1), (V.inl Zc []), (V.inl Zc []), (V.int .i64 (IntKind.i64.wrap (1 + r144.1)))]), (Zb r144.2))
      else bif (decide (r12.1 = 7)) then
        Option.bind (Zh (Zb r12.2) 4) fun r146 =>
        bif (decide ((0 : Int) < index)) then
          Option.bind (Zh (Zb r146.2) index) fun r147 =>
          some ((V.agg [(V.int .i64 r12.1), (V.inl Zc []), (V.inl Zc []), (V.int .i64 (IntKind.i64.wrap (1 + r147.1)))]), (Zb r147.2))
        else some ((V.agg [(V.int .i64 r12.1), (V.inl Zc []), (V.inl Zc []), (V.int .i64 (IntKind.i64.wrap (1 + r146.1)))]), (Zb r146.2))
      else some ((V.agg [(V.int .i64 r12.1), (V.inl Zc []), (V.inl Zc []), (V.int .i64 0)]), (Zb r12.2))
    else bif (decide (r12.1 = 4)) then
      Option.bind (Zh (Zb r12.2) 2) fun r148 =>
      some ((V.agg [(V.int .i64 r12.1), (V.inl Zc []), (V.inl Zc []), (V.int .i64 r148.1)]), (Zb r148.2))
    else bif (decide (r12.1 = 2)) then
      Option.bind (Zh (Zb r12.2) (IntKind.i64.wrap (index + 1))) fun r149 =>
      Option.bind (Zh (Zb r149.2) 2) fun r150 =>
      some ((V.agg [(V.int .i64 r12.1), (V.inl Zc []), (V.inl Zc []), (V.int .i64 (IntKind.i64.wrap (r149.1 * r150.1)))]), (Zb r150.2))
    else bif (decide (r12.1 = 5)) then
      Option.bind (Zh (Zb r12.2) 4) fun r151 =>
      bif (decide ((0 : Int) < index)) then
        Option.bind (Zh (Zb r151.2) index) fun r152 =>
        some ((V.agg [(V.int .i64 r12.1), (V.inl Zc []), (V.inl Zc []), (V.int .i64 (IntKind.i64.wrap (1 + r152.1)))]), (Zb r152.2))
      else some ((V.agg [(V.int .i64 r12.1), (V.inl Zc []), (V.inl Zc []), (V.int .i64 (IntKind.i64.wrap (1 + r151.1)))]), (Zb r151.2))
    else bif (decide (r12.1 = 6)) then
      Option.bind (Zh (Zb r12.2) 4) fun r153 =>
      bif (decide ((0 : Int) < index)) then
        Option.bind (Zh (Zb r153.2) index) fun r154 =>
        some ((V.agg [(V.int .i64 r12.1), (V.inl Zc []), (V.inl Zc []), (V.int .i64 (IntKind.i64.wrap (1 + r154.1)))]), (Zb r154.2))
      else some ((V.agg [(V.int .i64 r12.1), (V.inl Zc []), (V.inl Zc []), (V.int .i64 (IntKind.i64.wrap (1 + r153.1)))]), (Zb r153.2))
    else bif (decide (r12.1 = 7)) then
      Option.bind (Zh (Zb r12.2) 4) fun r155 =>
      bif (decide ((0 : Int) < index)) then
        Option.bind (Zh (Zb r155.2) index) fun r156 =>
        some ((V.agg [(V.int .i64 r12.1), (V.inl Zc []), (V.inl Zc []), (V.int .i64 (IntKind.i64.wrap (1 + r156.1)))]), (Zb r156.2))
      else some ((V.agg [(V.int .i64 r12.1), (V.inl Zc []), (V.inl Zc []), (V.int .i64 (IntKind.i64.wrap (1 + r155.1)))]), (Zb r155.2))
    else some ((V.agg [(V.int .i64 r12.1), (V.inl Zc []), (V.inl Zc []), (V.int .i64 0)]), (Zb r12.2))
  else bif (decide (r12.1 = 4)) then
    Option.bind (Zh (Zb r12.2) 2) fun r157 =>
    some ((V.agg [(V.int .i64 r12.1), (V.inl Zc []), (V.inl Zc []), (V.int .i64 r157.1)]), (Zb r157.2))
  else bif (decide (r12.1 = 2)) then
    Option.bind (Zh (Zb r12.2) (IntKind.i64.wrap (index + 1))) fun r158 =>
    Option.bind (Zh (Zb r158.2) 2) fun r159 =>
    some ((V.agg [(V.int .i64 r12.1), (V.inl Zc []), (V.inl Zc []), (V.int .i64 (IntKind.i64.wrap (r158.1 * r159.1)))]), (Zb r159.2))
  else bif (decide (r12.1 = 5)) then
    Option.bind (Zh (Zb r12.2) 4) fun r160 =>
    bif (decide ((0 : Int) < index)) then
      Option.bind (Zh (Zb r160.2) index) fun r161 =>
      some ((V.agg [(V.int .i64 r12.1), (V.inl Zc []), (V.inl Zc []), (V.int .i64 (IntKind.i64.wrap (1 + r161.1)))]), (Zb r161.2))
    else some ((V.agg [(V.int .i64 r12.1), (V.inl Zc []), (V.inl Zc []), (V.int .i64 (IntKind.i64.wrap (1 + r160.1)))]), (Zb r160.2))
  else bif (decide (r12.1 = 6)) then
    Option.bind (Zh (Zb r12.2) 4) fun r162 =>
    bif (decide ((0 : Int) < index)) then
      Option.bind (Zh (Zb r162.2) index) fun r163 =>
      some ((V.agg [(V.int .i64 r12.1), (V.inl Zc []), (V.inl Zc []), (V.int .i64 (IntKind.i64.wrap (1 + r163.1)))]), (Zb r163.2))
    else some ((V.agg [(V.int .i64 r12.1), (V.inl Zc []), (V.inl Zc []), (V.int .i64 (IntKind.i64.wrap (1 + r162.1)))]), (Zb r162.2))
  else bif (decide (r12.1 = 7)) then
    Option.bind (Zh (Zb r12.2) 4) fun r164 =>
    bif (decide ((0 : Int) < index)) then
      Option.bind (Zh (Zb r164.2) index) fun r165 =>
      some ((V.agg [(V.int .i64 r12.1), (V.inl Zc []), (V.inl Zc []), (V.int .i64 (IntKind.i64.wrap (1 + r165.1)))]), (Zb r165.2))
    else some ((V.agg [(V.int .i64 r12.1), (V.inl Zc []), (V.inl Zc []), (V.int .i64 (IntKind.i64.wrap (1 + r164.1)))]), (Zb r164.2))
  else some ((V.agg [(V.int .i64 r12.1), (V.inl Zc []), (V.inl Zc []), (V.int .i64 0)]), (Zb r12.2))
def Za0 (c : V) (n : Int) : Option (Bool × V) :=
  Option.bind (Zh (Zb c) n) fun r168 =>
  some ((decide (r168.1 = 0)), (Zb r168.2))
def ZbJ : Nat → List V → Int → V → Option (Nat × Int)
  | 0, _, _, _ => none
  | k_ + 1, key1, i5, b0 =>
    bif (decide (i5 < (((gl b0 1).length : Nat) : Int))) then
      bif (Zm i5 ((gl b0 1).length)) then
        bif (ZbA ((gl (rd (gl b0 1) i5.toNat) 0).map Zau) (key1.map Zau)) then
          some (0, i5)
        else ZbJ k_ key1 (IntKind.i64.wrap (i5 + 1)) (Za b0)
      else none
    else some (1, 0)
def ZaQ (s : V) (key : List V) : Option (Int) :=
  Option.bind (ZbJ (((((gl (Za s) 1).length : Nat) : Int) - 0).toNat + 1) key 0 (Za s)) fun r171 =>
  bif (Nat.beq r171.1 0) then
    some r171.2
  else some (-1)
def Zbr : Nat → List V → Int → V → Option (Nat × Int)
  | 0, _, _, _ => none
  | k_ + 1, key1, i5, b0 =>
    bif (decide (i5 < (((gl b0 2).length : Nat) : Int))) then
      bif (Zm i5 ((gl b0 2).length)) then
        bif (ZbA ((gl (rd (gl b0 2) i5.toNat) 0).map Zau) (key1.map Zau)) then
          some (0, i5)
        else Zbr k_ key1 (IntKind.i64.wrap (i5 + 1)) (Za b0)
      else none
    else some (1, 0)
def ZcQ (s : V) (key : List V) : Option (Int) :=
  Option.bind (Zbr (((((gl (Za s) 2).length : Nat) : Int) - 0).toNat + 1) key 0 (Za s)) fun r174 =>
  bif (Nat.beq r174.1 0) then
    some r174.2
  else some (-1)
def Zbs : Nat → Int → Int → V → Option (Nat × Int)
  | 0, _, _, _ => none
  | k_ + 1, id1, i5, b0 =>
    bif (decide (i5 < (((gl b0 4).length : Nat) : Int))) then
      bif (Zm i5 ((gl b0 4).length)) then
        bif (decide ((gi (rd (gl b0 4) i5.toNat) 0) = id1)) then
          some (0, i5)
        else Zbs k_ id1 (IntKind.i64.wrap (i5 + 1)) (Za b0)
      else none
    else some (1, 0)
def Zbh (s : V) (id : Int) : Option (Int) :=
  Option.bind (Zbs (((((gl (Za s) 4).length : Nat) : Int) - 0).toNat + 1) id 0 (Za s)) fun r183 =>
  bif (Nat.beq r183.1 0) then
    some r183.2
  else some (-1)
def ZbL : Nat → V → List V → List V → List V → List V → Option (V × List V × List V × List V × List V)
  | 0, _, _, _, _, _ => none
  | k_ + 1, b0, r1, r2, r3, r4 =>
    bif (decide ((10 : Int) < ((r2.length : Nat) : Int))) then
      bif (Zm 0 r2.length) then
        bif (decide ((1 : Int) ≤ ((r2.length : Nat) : Int))) then
          none
        else none
      else none
    else some ((V.agg [(V.int .i64 (gi b0 0)), (V.sl 1 Zg 0 none), (V.sl 2 Zf 0 none), (V.int .i64 (gi b0 3)), (V.sl 3 Zd 0 none), (V.sl 4 Ze 0 none)]), r1, r2, r3, r4)
def Zcw (s : V) (i : Int) : Option (V) :=
  bif (Zm i ((gl s 1).length)) then
    bif ((decide ((0 : Int) ≤ i)) && (decide (i ≤ (((gl s 1).length : Nat) : Int)))) then
      bif ((Zv (0 + (((gl s 1).take i.toNat).length)) 64) && true) then
        bif ((decide ((0 : Int) ≤ (IntKind.i64.wrap (i + 1)))) && (decide ((IntKind.i64.wrap (i + 1)) ≤ (((gl s 1).length : Nat) : Int)))) then
          bif ((Zv ((((gl s 1).take i.toNat).length) + ((((gl s 1).drop (0 + ((IntKind.i64.wrap (i + 1)).toNat))).take (((gl s 1).length) - ((IntKind.i64.wrap (i + 1)).toNat))).length)) 64) && true) then
            bif ((Zv (0 + ((gl s 2).length)) 32) && true) then
              bif ((Zv (((gl s 2).length) + 1) 32) && true) then
                Option.bind (ZbL ((((((gl s 2) ++ [(V.agg [(V.inl Zc (gl (rd (gl s 1) (0 + i.toNat)) 0)), (V.int .i64 (gi s 0))])]).length : Nat) : Int) - 10).toNat + 1) (V.agg [(V.int .i64 (gi s 0)), (V.sl 1 Zg 0 none), (V.sl 2 Zf 0 none), (V.int .i64 (gi s 3)), (V.sl 3 Zd 0 none), (V.sl 4 Ze 0 none)]) (((gl s 1).take i.toNat) ++ (((gl s 1).drop (0 + ((IntKind.i64.wrap (i + 1)).toNat))).take (((gl s 1).length) - ((IntKind.i64.wrap (i + 1)).toNat)))) ((gl s 2) ++ [(V.agg [(V.inl Zc (gl (rd (gl s 1) (0 + i.toNat)) 0)), (V.int .i64 (gi s 0))])]) (gl s 4) (gl s 5)) fun r186 =>
                some (V.agg [(V.int .i64 (gi r186.1 0)), (V.inl Zg r186.2.1), (V.inl Zf r186.2.2.1), (V.int .i64 (gi r186.1 3)), (V.inl Zd r186.2.2.2.1), (V.inl Ze r186.2.2.2.2)])
              else none
            else none
          else none
        else none
      else none
    else none
  else none
def ZU : Nat → List V → List V → Int → V → List V → List V → List V → List V → Option (List V × List V × Int × V × List V × List V × List V × List V)
  | 0, _, _, _, _, _, _, _, _ => none
  | k_ + 1, key1, val2, i7, b0, r1, r2, r3, r4 =>
    bif (decide (i7 < ((r1.length : Nat) : Int))) then
      bif (Zm i7 r1.length) then
        bif (ZbK ((gl (rd r1 (0 + i7.toNat)) 0).map Zau) (key1.map Zau)) then
          ZU k_ key1 val2 (IntKind.i64.wrap (i7 + 1)) (V.agg [(V.int .i64 (gi b0 0)), (V.sl 1 Zg 0 none), (V.sl 2 Zf 0 none), (V.int .i64 (gi b0 3)), (V.sl 3 Zd 0 none), (V.sl 4 Ze 0 none)]) r1 r2 r3 r4
        else some (key1, val2, i7, (V.agg [(V.int .i64 (gi b0 0)), (V.sl 1 Zg 0 none), (V.sl 2 Zf 0 none), (V.int .i64 (gi b0 3)), (V.sl 3 Zd 0 none), (V.sl 4 Ze 0 none)]), r1, r2, r3, r4)
      else none
    else some (key1, val2, i7, (V.agg [(V.int .i64 (gi b0 0)), (V.sl 1 Zg 0 none), (V.sl 2 Zf 0 none), (V.int .i64 (gi b0 3)), (V.sl 3 Zd 0 none), (V.sl 4 Ze 0 none)]), r1, r2, r3, r4)
def Z5 (s : V) (key : List V) (val : List V) : Option (Bool × V) :=
  Option.bind (ZaQ (Za s) key) fun r215 =>
  bif (decide ((0 : Int) ≤ r215)) then
    bif ((Zv (0 + val.length) 1) && true) then
      bif (Zm r215 ((gl s 1).length)) then
        bif (Zm r215 (((gl s 1).set (0 + r215.toNat) (V.agg [(V.inl Zc (gl (rd (gl s 1) (0 + r215.toNat)) 0)), (V.inl Zc val), (V.int .i64 (gi (rd (gl s 1) (0 + r215.toNat)) 2)), (V.int .i64 (gi (rd (gl s 1) (0 + r215.toNat)) 3))])).length)) then
          some (true, (V.agg [(V.int .i64 (gi s 0)), (V.inl Zg (((gl s 1).set (0 + r215.toNat) (V.agg [(V.inl Zc (gl (rd (gl s 1) (0 + r215.toNat)) 0)), (V.inl Zc val), (V.int .i64 (gi (rd (gl s 1) (0 + r215.toNat)) 2)), (V.int .i64 (gi (rd (gl s 1) (0 + r215.toNat)) 3))])).set (0 + r215.toNat) (V.agg [(V.inl Zc (gl (rd ((gl s 1).set (0 + r215.toNat) (V.agg [(V.inl Zc (gl (rd (gl s 1) (0 + r215.toNat)) 0)), (V.inl Zc val), (V.int .i64 (gi (rd (gl s 1) (0 + r215.toNat)) 2)), (V.int .i64 (gi (rd (gl s 1) (0 + r215.toNat)) 3))])) (0 + r215.toNat)) 0)), (V.inl Zc (gl (rd ((gl s 1).set (0 + r215.toNat) (V.agg [(V.inl Zc (gl (rd (gl s 1) (0 + r215.toNat)) 0)), (V.inl Zc val), (V.int .i64 (gi (rd (gl s 1) (0 + r215.toNat)) 2)), (V.int .i64 (gi (rd (gl s 1) (0 + r215.toNat)) 3))])) (0 + r215.toNat)) 1)), (V.int .i64 (gi s 0)), (V.int .i64 (gi (rd ((gl s 1).set (0 + r215.toNat) (V.agg [(V.inl Zc (gl (rd (gl s 1) (0 + r215.toNat)) 0)), (V.inl Zc val), (V.int .i64 (gi (rd (gl s 1) (0 + r215.toNat)) 2)), (V.int .i64 (gi (rd (gl s 1) (0 + r215.toNat)) 3))])) (0 + r215.toNat)) 3))]))), (V.inl Zf (gl s 2)), (V.int .i64 (gi s 3)), (V.inl Zd (gl s 4)), (V.inl Ze (gl s 5))]))
        else none
      else none
    else none
  else bif (decide ((20 : Int) ≤ (((gl s 1).length : Nat) : Int))) then
    some (false, (Za s))
  else Option.bind (ZcQ (Za s) key) fun r216 =>
  bif (decide ((0 : Int) ≤ r216)) then
    bif ((decide ((0 : Int) ≤ r216)) && (decide (r216 ≤ (((gl s 2).length : Nat) : Int)))) then
      bif ((Zv (0 + (((gl s 2).take r216.toNat).length)) 32) && true) then
        bif ((decide ((0 : Int) ≤ (IntKind.i64.wrap (r216 + 1)))) && (decide ((IntKind.i64.wrap (r216 + 1)) ≤ (((gl s 2).length : Nat) : Int)))) then
          bif ((Zv ((((gl s 2).take r216.toNat).length) + ((((gl s 2).drop (0 + ((IntKind.i64.wrap (r216 + 1)).toNat))).take (((gl s 2).length) - ((IntKind.i64.wrap (r216 + 1)).toNat))).length)) 32) && true) then
            Option.bind (ZU (((((gl s 1).length : Nat) : Int) - 0).toNat + 1) key val 0 (V.agg [(V.int .i64 (gi s 0)), (V.sl 1 Zg 0 none), (V.sl 2 Zf 0 none), (V.int .i64 (gi s 3)), (V.sl 3 Zd 0 none), (V.sl 4 Ze 0 none)]) (gl s 1) (((gl s 2).take r216.toNat) ++ (((gl s 2).drop (0 + ((IntKind.i64.wrap (r216 + 1)).toNat))).take (((gl s 2).length) - ((IntKind.i64.wrap (r216 + 1)).toNat)))) (gl s 4) (gl s 5)) fun r217 =>
            bif ((decide ((0 : Int) ≤ r217.2.2.1)) && (decide (r217.2.2.1 ≤ ((r217.2.2.2.2.1.length : Nat) : Int)))) then
              bif ((Zv (0 + ((r217.2.2.2.2.1.take r217.2.2.1.toNat).length)) 64) && true) then
                bif ((Zv (0 + r217.1.length) 1) && true) then
                  bif ((Zv (0 + r217.2.1.length) 1) && true) then
                    bif ((Zv (((r217.2.2.2.2.1.take r217.2.2.1.toNat).length) + 1) 64) && true) then
                      bif ((decide ((0 : Int) ≤ r217.2.2.1)) && (decide (r217.2.2.1 ≤ ((r217.2.2.2.2.1.length : Nat) : Int)))) then
                        bif ((Zv ((((r217.2.2.2.2.1.take r217.2.2.1.toNat) ++ [(V.agg [(V.inl Zc r217.1), (V.inl Zc r217.2.1), (V.int .i64 (gi r217.2.2.2.1 0)), (V.int .i64 0)])]).length) + (((r217.2.2.2.2.1.drop (0 + r217.2.2.1.toNat)).take (r217.2.2.2.2.1.length - r217.2.2.1.toNat)).length)) 64) && true) then
                          some (true, (V.agg [(V.int .i64 (gi r217.2.2.2.1 0)), (V.inl Zg (((r217.2.2.2.2.1.take r217.2.2.1.toNat) ++ [(V.agg [(V.inl Zc r217.1), (V.inl Zc r217.2.1), (V.int .i64 (gi r217.2.2.2.1 0)), (V.int .i64 0)])]) ++ ((r217.2.2.2.2.1.drop (0 + r217.2.2.1.toNat)).take (r217.2.2.2.2.1.length - r217.2.2.1.toNat)))), (V.inl Zf r217.2.2.2.2.2.1), (V.int .i64 (gi r217.2.2.2.1 3)), (V.inl Zd r217.2.2.2.2.2.2.1), (V.inl Ze r217.2.2.2.2.2.2.2)]))
                        else none
                      else none
                    else none
                  else none
                else none
              else none
            else none
          else none
        else none
      else none
    else none
  else Option.bind (ZU (((((gl s 1).length : Nat) : Int) - 0).toNat + 1) key val 0 (V.agg [(V.int .i64 (gi s 0)), (V.sl 1 Zg 0 none), (V.sl 2 Zf 0 none), (V.int .i64 (gi s 3)), (V.sl 3 Zd 0 none), (V.sl 4 Ze 0 none)]) (gl s 1) (gl s 2) (gl s 4) (gl s 5)) fun r218 =>
  bif ((decide ((0 : Int) ≤ r218.2.2.1)) && (decide (r218.2.2.1 ≤ ((r218.2.2.2.2.1.length : Nat) : Int)))) then
    bif ((Zv (0 + ((r218.2.2.2.2.1.take r218.2.2.1.toNat).length)) 64) && true) then
      bif ((Zv (0 + r218.1.length) 1) && true) then
        bif ((Zv (0 + r218.2.1.length) 1) && true) then
          bif ((Zv (((r218.2.2.2.2.1.take r218.2.2.1.toNat).length) + 1) 64) && true) then
            bif ((decide ((0 : Int) ≤ r218.2.2.1)) && (decide (r218.2.2.1 ≤ ((r218.2.2.2.2.1.length : Nat) : Int)))) then
              bif ((Zv ((((r218.2.2.2.2.1.take r218.2.2.1.toNat) ++ [(V.agg [(V.inl Zc r218.1), (V.inl Zc r218.2.1), (V.int .i64 (gi r218.2.2.2.1 0)), (V.int .i64 0)])]).length) + (((r218.2.2.2.2.1.drop (0 + r218.2.2.1.toNat)).take (r218.2.2.2.2.1.length - r218.2.2.1.toNat)).length)) 64) && true) then
                some (true, (V.agg [(V.int .i64 (gi r218.2.2.2.1 0)), (V.inl Zg (((r218.2.2.2.2.1.take r218.2.2.1.toNat) ++ [(V.agg [(V.inl Zc r218.1), (V.inl Zc r218.2.1), (V.int .i64 (gi r218.2.2.2.1 0)), (V.int .i64 0)])]) ++ ((r218.2.2.2.2.1.drop (0 + r218.2.2.1.toNat)).take (r218.2.2.2.2.1.length - r218.2.2.1.toNat)))), (V.inl Zf r218.2.2.2.2.2.1), (V.int .i64 (gi r218.2.2.2.1 3)), (V.inl Zd r218.2.2.2.2.2.2.1), (V.inl Ze r218.2.2.2.2.2.2.2)]))
              else none
            else none
          else none
        else none
      else none
    else none
  else none
def Zaa : Nat → Int → V → V → List V → List V → List V → List V → Option (V × List V × List V × List V × List V)
  | 0, _, _, _, _, _, _, _ => none
  | k_ + 1, k5, b0, b1, r2, r3, r4, r5 =>
    bif (decide (k5 < ((r2.length : Nat) : Int))) then
      bif (Zm k5 r2.length) then
        bif (!(decide ((gi (rd r2 (0 + k5.toNat)) 3) = (gi b1 0)))) then
          Zaa k_ (IntKind.i64.wrap (k5 + 1)) (V.agg [(V.int .i64 (gi b0 0)), (V.sl 2 Zg 0 none), (V.sl 3 Zf 0 none), (V.int .i64 (gi b0 3)), (V.sl 4 Zd 0 none), (V.sl 5 Ze 0 none)]) (Zcv b1) r2 r3 r4 r5
        else bif (gb b1 1) then
          Option.bind (Zcw (V.agg [(V.int .i64 (gi b0 0)), (V.inl Zg r2), (V.inl Zf r3), (V.int .i64 (gi b0 3)), (V.inl Zd r4), (V.inl Ze r5)]) k5) fun r224 =>
          Zaa k_ (IntKind.i64.wrap ((IntKind.i64.wrap (k5 - 1)) + 1)) (V.agg [(V.int .i64 (gi r224 0)), (V.sl 2 Zg 0 none), (V.sl 3 Zf 0 none), (V.int .i64 (gi r224 3)), (V.sl 4 Zd 0 none), (V.sl 5 Ze 0 none)]) (Zcv b1) (gl r224 1) (gl r224 2) (gl r224 4) (gl r224 5)
        else bif (Zm k5 r2.length) then
          bif (Zm k5 ((r2.set (0 + k5.toNat) (V.agg [(V.inl Zc (gl (rd r2 (0 + k5.toNat)) 0)), (V.inl Zc (gl (rd r2 (0 + k5.toNat)) 1)), (V.int .i64 (gi (rd r2 (0 + k5.toNat)) 2)), (V.int .i64 0)])).length)) then
            Zaa k_ (IntKind.i64.wrap (k5 + 1)) (V.agg [(V.int .i64 (gi b0 0)), (V.sl 2 Zg 0 none), (V.sl 3 Zf 0 none), (V.int .i64 (gi b0 3)), (V.sl 4 Zd 0 none), (V.sl 5 Ze 0 none)]) (Zcv b1) ((r2.set (0 + k5.toNat) (V.agg [(V.inl Zc (gl (rd r2 (0 + k5.toNat)) 0)), (V.inl Zc (gl (rd r2 (0 + k5.toNat)) 1)), (V.int .i64 (gi (rd r2 (0 + k5.toNat)) 2)), (V.int .i64 0)])).set (0 + k5.toNat) (V.agg [(V.inl Zc (gl (rd (r2.set (0 + k5.toNat) (V.agg [(V.inl Zc (gl (rd r2 (0 + k5.toNat)) 0)), (V.inl Zc (gl (rd r2 (0 + k5.toNat)) 1)), (V.int .i64 (gi (rd r2 (0 + k5.toNat)) 2)), (V.int .i64 0)])) (0 + k5.toNat)) 0)), (V.inl Zc (gl (rd (r2.set (0 + k5.toNat) (V.agg [(V.inl Zc (gl (rd r2 (0 + k5.toNat)) 0)), (V.inl Zc (gl (rd r2 (0 + k5.toNat)) 1)), (V.int .i64 (gi (rd r2 (0 + k5.toNat)) 2)), (V.int .i64 0)])) (0 + k5.toNat)) 1)), (V.int .i64 (gi b0 0)), (V.int .i64 (gi (rd (r2.set (0 + k5.toNat) (V.agg [(V.inl Zc (gl (rd r2 (0 + k5.toNat)) 0)), (V.inl Zc (gl (rd r2 (0 + k5.toNat)) 1)), (V.int .i64 (gi (rd r2 (0 + k5.toNat)) 2)), (V.int .i64 0)])) (0 + k5.toNat)) 3))])) r3 r4 r5
          else none
        else none
      else none
    else some ((V.agg [(V.int .i64 (gi b0 0)), (V.sl 1 Zg 0 none), (V.sl 2 Zf 0 none), (V.int .i64 (gi b0 3)), (V.sl 3 Zd 0 none), (V.sl 4 Ze 0 none)]), r2, r3, r4, r5)
def Zcx (s : V) (i : Int) : Option (V) :=
  bif (Zm i ((gl s 4).length)) then
    bif ((decide ((0 : Int) ≤ i)) && (decide (i ≤ (((gl s 4).length : Nat) : Int)))) then
      bif ((Zv (0 + (((gl s 4).take i.toNat).length)) 16) && true) then
        bif ((decide ((0 : Int) ≤ (IntKind.i64.wrap (i + 1)))) && (decide ((IntKind.i64.wrap (i + 1)) ≤ (((gl s 4).length : Nat) : Int)))) then
          bif ((Zv ((((gl s 4).take i.toNat).length) + (((gl s 4).drop (0 + ((IntKind.i64.wrap (i + 1)).toNat))).length)) 16) && true) then
            Option.bind (Zaa (((((gl s 1).length : Nat) : Int) - 0).toNat + 1) 0 (V.agg [(V.int .i64 (gi s 0)), (V.sl 2 Zg 0 none), (V.sl 3 Zf 0 none), (V.int .i64 (gi s 3)), (V.sl 4 Zd 0 none), (V.sl 5 Ze 0 none)]) (Zcv (rd (gl s 4) (0 + i.toNat))) (gl s 1) (gl s 2) (((gl s 4).take i.toNat) ++ ((gl s 4).drop (0 + ((IntKind.i64.wrap (i + 1)).toNat)))) (gl s 5)) fun r225 =>
            some (V.agg [(V.int .i64 (gi r225.1 0)), (V.inl Zg r225.2.1), (V.inl Zf r225.2.2.1), (V.int .i64 (gi r225.1 3)), (V.inl Zd r225.2.2.2.1), (V.inl Ze r225.2.2.2.2)])
          else none
        else none
      else none
    else none
  else none
def ZaY (s : V) (o : V) : Option (Int × V) :=
  bif (decide ((0 : Int) < (((gl o 1).length : Nat) : Int))) then
    Option.bind (ZaQ (Za s) (gl o 1)) fun r214 =>
    bif (decide ((gi o 0) = 1)) then
      Option.bind (Z5 (Za s) (gl o 1) (gl o 2)) fun r219 =>
      bif (!r219.1) then
        some (4, (Za r219.2))
      else some (0, (Za r219.2))
    else bif (decide ((gi o 0) = 2)) then
      bif (decide ((0 : Int) ≤ r214)) then
        bif (Zm r214 ((gl s 1).length)) then
          bif (!(decide ((gi (rd (gl s 1) (0 + r214.toNat)) 2) = (gi o 3)))) then
            some (3, (Za s))
          else Option.bind (Z5 (Za s) (gl o 1) (gl o 2)) fun r220 =>
          bif (!r220.1) then
            some (4, (Za r220.2))
          else some (0, (Za r220.2))
        else none
      else bif (!(decide ((0 : Int) = (gi o 3)))) then
        some (3, (Za s))
      else Option.bind (Z5 (Za s) (gl o 1) (gl o 2)) fun r221 =>
      bif (!r221.1) then
        some (4, (Za r221.2))
      else some (0, (Za r221.2))
    else bif (decide ((gi o 0) = 3)) then
      bif (decide (r214 < 0)) then
        some (1, (Za s))
      else Option.bind (Zcw (Za s) r214) fun r222 =>
      some (0, (Za r222))
    else bif (decide ((gi o 0) = 4)) then
      bif (decide ((8 : Int) ≤ (((gl s 4).length : Nat) : Int))) then
        some (4, (Za s))
      else bif ((Zv (0 + ((gl s 4).length)) 16) && true) then
        bif ((Zv (((gl s 4).length) + 1) 16) && true) then
          some (0, (V.agg [(V.int .i64 (gi s 0)), (V.inl Zg (gl s 1)), (V.inl Zf (gl s 2)), (V.int .i64 (gi s 3)), (V.inl Zd ((gl s 4) ++ [(V.agg [(V.int .i64 (gi s 0)), (V.bool (decide ((gi o 3) = 1)))])])), (V.inl Ze (gl s 5))]))
        else none
      else none
    else bif (decide ((gi o 0) = 5)) then
      Option.bind (Zbh (Za s) (gi o 3)) fun r223 =>
      bif (decide (r223 < 0)) then
        some (1, (Za s))
      else Option.bind (Zcx (Za s) r223) fun r226 =>
      some (0, (Za r226))
    else bif (decide ((gi o 0) = 6)) then
      Option.bind (Zbh (Za s) (gi o 3)) fun r227 =>
      bif (decide (r227 < 0)) then
        some (1, (Za s))
      else bif (decide ((0 : Int) ≤ r214)) then
        bif (Zm r214 ((gl s 1).length)) then
          bif (!(decide ((gi (rd (gl s 1) (0 + r214.toNat)) 3) = 0))) then
            bif (Zm r214 ((gl s 1).length)) then
              bif (!(decide ((gi (rd (gl s 1) (0 + r214.toNat)) 3) = (gi o 3)))) then
                some (2, (Za s))
              else Option.bind (Z5 (Za s) (gl o 1) (gl o 2)) fun r228 =>
              bif (!r228.1) then
                some (4, (Za r228.2))
              else Option.bind (ZaQ (Za r228.2) (gl o 1)) fun r229 =>
              bif (Zm r229 ((gl r228.2 1).length)) then
                some (0, (V.agg [(V.int .i64 (gi r228.2 0)), (V.inl Zg ((gl r228.2 1).set (0 + r229.toNat) (V.agg [(V.inl Zc (gl (rd (gl r228.2 1) (0 + r229.toNat)) 0)), (V.inl Zc (gl (rd (gl r228.2 1) (0 + r229.toNat)) 1)), (V.int .i64 (gi (rd (gl r228.2 1) (0 + r229.toNat)) 2)), (V.int .i64 (gi o 3))]))), (V.inl Zf (gl r228.2 2)), (V.int .i64 (gi r228.2 3)), (V.inl Zd (gl r228.2 4)), (V.inl Ze (gl r228.2 5))]))
              else none
            else none
          else Option.bind (Z5 (Za s) (gl o 1) (gl o 2)) fun r230 =>
          bif (!r230.1) then
            some (4, (Za r230.2))
          else Option.bind (ZaQ (Za r230.2) (gl o 1)) fun r231 =>
          bif (Zm r231 ((gl r230.2 1).length)) then
            some (0, (V.agg [(V.int .i64 (gi r230.2 0)), (V.inl Zg ((gl r230.2 1).set (0 + r231.toNat) (V.agg [(V.inl Zc (gl (rd (gl r230.2 1) (0 + r231.toNat)) 0)), (V.inl Zc (gl (rd (gl r230.2 1) (0 + r231.toNat)) 1)), (V.int .i64 (gi (rd (gl r230.2 1) (0 + r231.toNat)) 2)), (V.int .i64 (gi o 3))]))), (V.inl Zf (gl r230.2 2)), (V.int .i64 (gi r230.2 3)), (V.inl Zd (gl r230.2 4)), (V.inl Ze (gl r230.2 5))]))
          else none
        else none
      else Option.bind (Z5 (Za s) (gl o 1) (gl o 2)) fun r232 =>
      bif (!r232.1) then
        some (4, (Za r232.2))
      else Option.bind (ZaQ (Za r232.2) (gl o 1)) fun r233 =>
      bif (Zm r233 ((gl r232.2 1).length)) then
        some (0, (V.agg [(V.int .i64 (gi r232.2 0)), (V.inl Zg ((gl r232.2 1).set (0 + r233.toNat) (V.agg [(V.inl Zc (gl (rd (gl r232.2 1) (0 + r233.toNat)) 0)), (V.inl Zc (gl (rd (gl r232.2 1) (0 + r233.toNat)) 1)), (V.int .i64 (gi (rd (gl r232.2 1) (0 + r233.toNat)) 2)), (V.int .i64 (gi o 3))]))), (V.inl Zf (gl r232.2 2)), (V.int .i64 (gi r232.2 3)), (V.inl Zd (gl r232.2 4)), (V.inl Ze (gl r232.2 5))]))
      else none
    else bif (decide ((gi o 0) = 7)) then
      bif (decide (r214 < 0)) then
        some (1, (Za s))
      else bif (Zm r214 ((gl s 1).length)) then
        bif (!(decide ((gi (rd (gl s 1) (0 + r214.toNat)) 3) = (gi o 3)))) then
          some (1, (Za s))
        else bif (Zm r214 ((gl s 1).length)) then
          bif (Zm r214 (((gl s 1).set (0 + r214.toNat) (V.agg [(V.inl Zc (gl (rd (gl s 1) (0 + r214.toNat)) 0)), (V.inl Zc (gl (rd (gl s 1) (0 + r214.toNat)) 1)), (V.int .i64 (gi (rd (gl s 1) (0 + r214.toNat)) 2)), (V.int .i64 0)])).length)) then
            some (0, (V.agg [(V.int .i64 (gi s 0)), (V.inl Zg (((gl s 1).set (0 + r214.toNat) (V.agg [(V.inl Zc (gl (rd (gl s 1) (0 + r214.toNat)) 0)), (V.inl Zc (gl (rd (gl s 1) (0 + r214.toNat)) 1)), (V.int .i64 (gi (rd (gl s 1) (0 + r214.toNat)) 2)), (V.int .i64 0)])).set (0 + r214.toNat) (V.agg [(V.inl Zc (gl (rd ((gl s 1).set (0 + r214.toNat) (V.agg [(V.inl Zc (gl (rd (gl s 1) (0 + r214.toNat)) 0)), (V.inl Zc (gl (rd (gl s 1) (0 + r214.toNat)) 1)), (V.int .i64 (gi (rd (gl s 1) (0 + r214.toNat)) 2)), (V.int .i64 0)])) (0 + r214.toNat)) 0)), (V.inl Zc (gl (rd ((gl s 1).set (0 + r214.toNat) (V.agg [(V.inl Zc (gl (rd (gl s 1) (0 + r214.toNat)) 0)), (V.inl Zc (gl (rd (gl s 1) (0 + r214.toNat)) 1)), (V.int .i64 (gi (rd (gl s 1) (0 + r214.toNat)) 2)), (V.int .i64 0)])) (0 + r214.toNat)) 1)), (V.int .i64 (gi s 0)), (V.int .i64 (gi (rd ((gl s 1).set (0 + r214.toNat) (V.agg [(V.inl Zc (gl (rd (gl s 1) (0 + r214.toNat)) 0)), (V.inl Zc (gl (rd (gl s 1) (0 + r214.toNat)) 1)), (V.int .i64 (gi (rd (gl s 1) (0 + r214.toNat)) 2)), (V.int .i64 0)])) (0 + r214.toNat)) 3))]))), (V.inl Zf (gl s 2)), (V.int .i64 (gi s 3)), (V.inl Zd (gl s 4)), (V.inl Ze (gl s 5))]))
          else none
        else none
      else none
    else some (0, (Za s))
  else bif (decide ((gi o 0) = 1)) then
    Option.bind (Z5 (Za s) (gl o 1) (gl o 2)) fun r234 =>
    bif (!r234.1) then
      some (4, (Za r234.2))
    else some (0, (Za r234.2))
  else bif (decide ((gi o 0) = 2)) then
    bif (!(decide ((0 : Int) = (gi o 3)))) then
      some (3, (Za s))
    else Option.bind (Z5 (Za s) (gl o 1) (gl o 2)) fun r235 =>
    bif (!r235.1) then
      some (4, (Za r235.2))
    else some (0, (Za r235.2))
  else bif (decide ((gi o 0) = 3)) then
    some (1, (Za s))
  else bif (decide ((gi o 0) = 4)) then
    bif (decide ((8 : Int) ≤ (((gl s 4).length : Nat) : Int))) then
      some (4, (Za s))
    else bif ((Zv (0 + ((gl s 4).length)) 16) && true) then
      bif ((Zv (((gl s 4).length) + 1) 16) && true) then
        some (0, (V.agg [(V.int .i64 (gi s 0)), (V.inl Zg (gl s 1)), (V.inl Zf (gl s 2)), (V.int .i64 (gi s 3)), (V.inl Zd ((gl s 4) ++ [(V.agg [(V.int .i64 (gi s 0)), (V.bool (decide ((gi o 3) = 1)))])])), (V.inl Ze (gl s 5))]))
      else none
    else none
  else bif (decide ((gi o 0) = 5)) then
    Option.bind (Zbh (Za s) (gi o 3)) fun r236 =>
    bif (decide (r236 < 0)) then
      some (1, (Za s))
    else Option.bind (Zcx (Za s) r236) fun r237 =>
    some (0, (Za r237))
  else bif (decide ((gi o 0) = 6)) then
    Option.bind (Zbh (Za s) (gi o 3)) fun r238 =>
    bif (decide (r238 < 0)) then
      some (1, (Za s))
    else Option.bind (Z5 (Za s) (gl o 1) (gl o 2)) fun r239 =>
    bif (!r239.1) then
      some (4, (Za r239.2))
    else Option.bind (ZaQ (Za r239.2) (gl o 1)) fun r240 =>
    bif (Zm r240 ((gl r239.2 1).length)) then
      some (0, (V.agg [(V.int .i64 (gi r239.2 0)), (V.inl Zg ((gl r239.2 1).set (0 + r240.toNat) (V.agg [(V.inl Zc (gl (rd (gl r239.2 1) (0 + r240.toNat)) 0)), (V.inl Zc (gl (rd (gl r239.2 1) (0 + r240.toNat)) 1)), (V.int .i64 (gi (rd (gl r239.2 1) (0 + r240.toNat)) 2)), (V.int .i64 (gi o 3))]))), (V.inl Zf (gl r239.2 2)), (V.int .i64 (gi r239.2 3)), (V.inl Zd (gl r239.2 4)), (V.inl Ze (gl r239.2 5))]))
    else none
  else bif (decide ((gi o 0) = 7)) then
    some (1, (Za s))
  else some (0, (Za s))
def Z3 : Nat → Int → V → V → V → V → List V → List V → List V → List V → Option (Int × V × V × V × V × List V × List V × List V × List V)
  | 0, _, _, _, _, _, _, _, _, _ => none
  | k_ + 1, k6, b0, b1, b2, b3, r4, r5, r6, r7 =>
    bif (decide (k6 < ((r7.length : Nat) : Int))) then
      bif (Zm k6 r7.length) then
        bif (decide ((gi (rd r7 (0 + k6.toNat)) 0) < (gi b1 0))) then
          Z3 k_ (IntKind.i64.wrap (k6 + 1)) (V.agg [(V.int .i64 (gi b0 0)), (V.sl 4 Zg 0 none), (V.sl 5 Zf 0 none), (V.int .i64 (gi b0 3)), (V.sl 6 Zd 0 none), (V.sl 7 Ze 0 none)]) (Zt b1) (Zx b2) (Zx b3) r4 r5 r6 r7
        else some (k6, (V.agg [(V.int .i64 (gi b0 0)), (V.sl 4 Zg 0 none), (V.sl 5 Zf 0 none), (V.int .i64 (gi b0 3)), (V.sl 6 Zd 0 none), (V.sl 7 Ze 0 none)]), (Zt b1), (Zx b2), (Zx b3), r4, r5, r6, r7)
      else none
    else some (k6, (V.agg [(V.int .i64 (gi b0 0)), (V.sl 4 Zg 0 none), (V.sl 5 Zf 0 none), (V.int .i64 (gi b0 3)), (V.sl 6 Zd 0 none), (V.sl 7 Ze 0 none)]), (Zt b1), (Zx b2), (Zx b3), r4, r5, r6, r7)
def ZD (s : V) (c : V) : Option (V × V) :=
  bif (decide ((gi c 0) < 0)) then
    some ((V.agg [(V.int .i64 0), (V.int .i64 (IntKind.i64.wrap ((gi s 0) + 1)))]), (V.agg [(V.int .i64 (IntKind.i64.wrap ((gi s 0) + 1))), (V.inl Zg (gl s 1)), (V.inl Zf (gl s 2)), (V.int .i64 (gi s 3)), (V.inl Zd (gl s 4)), (V.inl Ze (gl s 5))]))
  else Option.bind (Z3 (((((gl s 5).length : Nat) : Int) - 0).toNat + 1) 0 (V.agg [(V.int .i64 (IntKind.i64.wrap ((gi s 0) + 1))), (V.sl 4 Zg 0 none), (V.sl 5 Zf 0 none), (V.int .i64 (gi s 3)), (V.sl 6 Zd 0 none), (V.sl 7 Ze 0 none)]) (Zt c) (V.agg [(V.int .i64 0), (V.int .i64 0)]) (V.agg [(V.int .i64 0), (V.int .i64 (IntKind.i64.wrap ((gi s 0) + 1)))]) (gl s 1) (gl s 2) (gl s 4) (gl s 5)) fun r213 =>
  bif (decide (r213.1 < ((r213.2.2.2.2.2.2.2.2.length : Nat) : Int))) then
    bif (Zm r213.1 r213.2.2.2.2.2.2.2.2.length) then
      bif (decide ((gi (rd r213.2.2.2.2.2.2.2.2 (0 + r213.1.toNat)) 0) = (gi r213.2.2.1 0))) then
        bif (Zm r213.1 r213.2.2.2.2.2.2.2.2.length) then
          bif (decide ((gi (rd r213.2.2.2.2.2.2.2.2 (0 + r213.1.toNat)) 1) = (gi r213.2.2.1 1))) then
            bif (Zm r213.1 r213.2.2.2.2.2.2.2.2.length) then
              some ((V.agg [(V.int .i64 (gi (rd r213.2.2.2.2.2.2.2.2 (0 + r213.1.toNat)) 2)), (V.int .i64 (gi (rd r213.2.2.2.2.2.2.2.2 (0 + r213.1.toNat)) 3))]), (V.agg [(V.int .i64 (gi r213.2.1 0)), (V.inl Zg r213.2.2.2.2.2.1), (V.inl Zf r213.2.2.2.2.2.2.1), (V.int .i64 (gi r213.2.1 3)), (V.inl Zd r213.2.2.2.2.2.2.2.1), (V.inl Ze r213.2.2.2.2.2.2.2.2)]))
            else none
          else bif (Zm r213.1 r213.2.2.2.2.2.2.2.2.length) then
            bif (decide ((gi r213.2.2.1 1) < (gi (rd r213.2.2.2.2.2.2.2.2 (0 + r213.1.toNat)) 1))) then
              some ((V.agg [(V.int .i64 5), (V.int .i64 (gi r213.2.2.2.2.1 1))]), (V.agg [(V.int .i64 (gi r213.2.1 0)), (V.inl Zg r213.2.2.2.2.2.1), (V.inl Zf r213.2.2.2.2.2.2.1), (V.int .i64 (gi r213.2.1 3)), (V.inl Zd r213.2.2.2.2.2.2.2.1), (V.inl Ze r213.2.2.2.2.2.2.2.2)]))
            else Option.bind (ZaY (V.agg [(V.int .i64 (gi r213.2.1 0)), (V.inl Zg r213.2.2.2.2.2.1), (V.inl Zf r213.2.2.2.2.2.2.1), (V.int .i64 (gi r213.2.1 3)), (V.inl Zd r213.2.2.2.2.2.2.2.1), (V.inl Ze r213.2.2.2.2.2.2.2.2)]) (V.agg [(V.int .i64 (gi r213.2.2.1 2)), (V.inl Zc (gl r213.2.2.1 3)), (V.inl Zc (gl r213.2.2.1 4)), (V.int .i64 (gi r213.2.2.1 5))])) fun r241 =>
            bif (Zm r213.1 ((gl r241.2 5).length)) then
              bif (Zm r213.1 (((gl r241.2 5).set (0 + r213.1.toNat) (V.agg [(V.int .i64 (gi (rd (gl r241.2 5) (0 + r213.1.toNat)) 0)), (V.int .i64 (gi r213.2.2.1 1)), (V.int .i64 (gi (rd (gl r241.2 5) (0 + r213.1.toNat)) 2)), (V.int .i64 (gi (rd (gl r241.2 5) (0 + r213.1.toNat)) 3))])).length)) then
                some ((V.agg [(V.int .i64 r241.1), (V.int .i64 (gi r213.2.2.2.2.1 1))]), (V.agg [(V.int .i64 (gi r241.2 0)), (V.inl Zg (gl r241.2 1)), (V.inl Zf (gl r241.2 2)), (V.int .i64 (gi r241.2 3)), (V.inl Zd (gl r241.2 4)), (V.inl Ze (((gl r241.2 5).set (0 + r213.1.toNat) (V.agg [(V.int .i64 (gi (rd (gl r241.2 5) (0 + r213.1.toNat)) 0)), (V.int .i64 (gi r213.2.2.1 1)), (V.int .i64 (gi (rd (gl r241.2 5) (0 + r213.1.toNat)) 2)), (V.int .i64 (gi (rd (gl r241.2 5) (0 + r213.1.toNat)) 3))])).set (0 + r213.1.toNat) (V.agg [(V.int .i64 (gi (rd ((gl r241.2 5).set (0 + r213.1.toNat) (V.agg [(V.int .i64 (gi (rd (gl r241.2 5) (0 + r213.1.toNat)) 0)), (V.int .i64 (gi r213.2.2.1 1)), (V.int .i64 (gi (rd (gl r241.2 5) (0 + r213.1.toNat)) 2)), (V.int .i64 (gi (rd (gl r241.2 5) (0 + r213.1.toNat)) 3))])) (0 + r213.1.toNat)) 0)), (V.int .i64 (gi (rd ((gl r241.2 5).set (0 + r213.1.toNat) (V.agg [(V.int .i64 (gi (rd (gl r241.2 5) (0 + r213.1.toNat)) 0)), (V.int .i64 (gi r213.2.2.1 1)), (V.int .i64 (gi (rd (gl r241.2 5) (0 + r213.1.toNat)) 2)), (V.int .i64 (gi (rd (gl r241.2 5) (0 + r213.1.toNat)) 3))])) (0 + r213.1.toNat)) 1)), (V.int .i64 r241.1), (V.int .i64 (gi r213.2.2.2.2.1 1))])))]))
              else none
            else none
          else none
        else none
      else Option.bind (ZaY (V.agg [(V.int .i64 (gi r213.2.1 0)), (V.inl Zg r213.2.2.2.2.2.1), (V.inl Zf r213.2.2.2.2.2.2.1), (V.int .i64 (gi r213.2.1 3)), (V.inl Zd r213.2.2.2.2.2.2.2.1), (V.inl Ze r213.2.2.2.2.2.2.2.2)]) (V.agg [(V.int .i64 (gi r213.2.2.1 2)), (V.inl Zc (gl r213.2.2.1 3)), (V.inl Zc (gl r213.2.2.1 4)), (V.int .i64 (gi r213.2.2.1 5))])) fun r242 =>
      bif ((decide ((0 : Int) ≤ r213.1)) && (decide (r213.1 ≤ (((gl r242.2 5).length : Nat) : Int)))) then
        bif ((Zv (0 + (((gl r242.2 5).take r213.1.toNat).length)) 32) && true) then
          bif ((Zv ((((gl r242.2 5).take r213.1.toNat).length) + 1) 32) && true) then
            bif ((decide ((0 : Int) ≤ r213.1)) && (decide (r213.1 ≤ (((gl r242.2 5).length : Nat) : Int)))) then
              bif ((Zv (((((gl r242.2 5).take r213.1.toNat) ++ [(V.agg [(V.int .i64 (gi r213.2.2.1 0)), (V.int .i64 (gi r213.2.2.1 1)), (V.int .i64 r242.1), (V.int .i64 (gi r213.2.2.2.2.1 1))])]).length) + (((gl r242.2 5).drop (0 + r213.1.toNat)).length)) 32) && true) then
                some ((V.agg [(V.int .i64 r242.1), (V.int .i64 (gi r213.2.2.2.2.1 1))]), (V.agg [(V.int .i64 (gi r242.2 0)), (V.inl Zg (gl r242.2 1)), (V.inl Zf (gl r242.2 2)), (V.int .i64 (gi r242.2 3)), (V.inl Zd (gl r242.2 4)), (V.inl Ze ((((gl r242.2 5).take r213.1.toNat) ++ [(V.agg [(V.int .i64 (gi r213.2.2.1 0)), (V.int .i64 (gi r213.2.2.1 1)), (V.int .i64 r242.1), (V.int .i64 (gi r213.2.2.2.2.1 1))])]) ++ ((gl r242.2 5).drop (0 + r213.1.toNat))))]))
              else none
            else none
          else none
        else none
      else none
    else none
  else Option.bind (ZaY (V.agg [(V.int .i64 (gi r213.2.1 0)), (V.inl Zg r213.2.2.2.2.2.1), (V.inl Zf r213.2.2.2.2.2.2.1), (V.int .i64 (gi r213.2.1 3)), (V.inl Zd r213.2.2.2.2.2.2.2.1), (V.inl Ze r213.2.2.2.2.2.2.2.2)]) (V.agg [(V.int .i64 (gi r213.2.2.1 2)), (V.inl Zc (gl r213.2.2.1 3)), (V.inl Zc (gl r213.2.2.1 4)), (V.int .i64 (gi r213.2.2.1 5))])) fun r243 =>
  bif ((decide ((0 : Int) ≤ r213.1)) && (decide (r213.1 ≤ (((gl r243.2 5).length : Nat) : Int)))) then
    bif ((Zv (0 + (((gl r243.2 5).take r213.1.toNat).length)) 32) && true) then
      bif ((Zv ((((gl r243.2 5).take r213.1.toNat).length) + 1) 32) && true) then
        bif ((decide ((0 : Int) ≤ r213.1)) && (decide (r213.1 ≤ (((gl r243.2 5).length : Nat) : Int)))) then
          bif ((Zv (((((gl r243.2 5).take r213.1.toNat) ++ [(V.agg [(V.int .i64 (gi r213.2.2.1 0)), (V.int .i64 (gi r213.2.2.1 1)), (V.int .i64 r243.1), (V.int .i64 (gi r213.2.2.2.2.1 1))])]).length) + (((gl r243.2 5).drop (0 + r213.1.toNat)).length)) 32) && true) then
            some ((V.agg [(V.int .i64 r243.1), (V.int .i64 (gi r213.2.2.2.2.1 1))]), (V.agg [(V.int .i64 (gi r243.2 0)), (V.inl Zg (gl r243.2 1)), (V.inl Zf (gl r243.2 2)), (V.int .i64 (gi r243.2 3)), (V.inl Zd (gl r243.2 4)), (V.inl Ze ((((gl r243.2 5).take r213.1.toNat) ++ [(V.agg [(V.int .i64 (gi r213.2.2.1 0)), (V.int .i64 (gi r213.2.2.1 1)), (V.int .i64 r243.1), (V.int .i64 (gi r213.2.2.2.2.1 1))])]) ++ ((gl r243.2 5).drop (0 + r213.1.toNat))))]))
          else none
        else none
      else none
    else none
  else none
def Zz : Nat → Int → Int → V → V → V → List V → List V → List V → List V → List V → List V → List V → List V → Option (V × V × V × List V × List V × List V × List V × List V × List V × List V × List V)
  | 0, _, _, _, _, _, _, _, _, _, _, _, _, _ => none
  | k_ + 1, n4, i5, b0, b1, b2, r3, r4, r5, r6, r7, r8, r9, r10 =>
    bif (decide (i5 < n4)) then
      Option.bind (Zh (Zb b0) 3) fun r209 =>
      Option.bind (spec_l2op (Zb r209.2) (gi b2 0)) fun r210 =>
      bif (decide (i5 = 0)) then
        Option.bind (Zh (Zb r210.2) 2) fun r211 =>
        Option.bind (Za0 (Zb r211.2) 9) fun r212 =>
        bif r212.1 then
          Option.bind (ZD (V.agg [(V.int .i64 (gi b2 0)), (V.inl Zg r7), (V.inl Zf r8), (V.int .i64 (gi b2 3)), (V.inl Zd r9), (V.inl Ze r10)]) (V.agg [(V.int .i64 (-1)), (V.int .i64 0), (V.int .i64 0), (V.inl Zc []), (V.inl Zc []), (V.int .i64 0)])) fun r244 =>
          Zz k_ n4 (IntKind.i64.wrap (i5 + 1)) (Zb r212.2) (V.agg [(V.int .i64 (gi b1 0)), (V.sl 3 Zg 0 none), (V.sl 4 Zf 0 none), (V.int .i64 (gi b1 3)), (V.sl 5 Zd 0 none), (V.sl 6 Ze 0 none)]) (V.agg [(V.int .i64 (gi r244.2 0)), (V.sl 7 Zg 0 none), (V.sl 8 Zf 0 none), (V.int .i64 (gi r244.2 3)), (V.sl 9 Zd 0 none), (V.sl 10 Ze 0 none)]) r3 r4 r5 r6 (gl r244.2 1) (gl r244.2 2) (gl r244.2 4) (gl r244.2 5)
        else Option.bind (ZD (V.agg [(V.int .i64 (gi b2 0)), (V.inl Zg r7), (V.inl Zf r8), (V.int .i64 (gi b2 3)), (V.inl Zd r9), (V.inl Ze r10)]) (V.agg [(V.int .i64 r209.1), (V.int .i64 (IntKind.i64.wrap (1 + i5))), (V.int .i64 4), (V.inl Zc []), (V.inl Zc []), (V.int .i64 r211.1)])) fun r245 =>
        Zz k_ n4 (IntKind.i64.wrap (i5 + 1)) (Zb r212.2) (V.agg [(V.int .i64 (gi b1 0)), (V.sl 3 Zg 0 none), (V.sl 4 Zf 0 none), (V.int .i64 (gi b1 3)), (V.sl 5 Zd 0 none), (V.sl 6 Ze 0 none)]) (V.agg [(V.int .i64 (gi r245.2 0)), (V.sl 7 Zg 0 none), (V.sl 8 Zf 0 none), (V.int .i64 (gi r245.2 3)), (V.sl 9 Zd 0 none), (V.sl 10 Ze 0 none)]) r3 r4 r5 r6 (gl r245.2 1) (gl r245.2 2) (gl r245.2 4) (gl r245.2 5)
      else bif (decide ((5 : Int) ≤ (gi r210.1 0))) then
        bif (decide ((0 : Int) < ((r9.length : Nat) : Int))) then
          Option.bind (Za0 (Zb r210.2) 3) fun r246 =>
          bif (!r246.1) then
            Option.bind (Zh (Zb r246.2) ((r9.length : Nat) : Int)) fun r247 =>
            bif (Zm r247.1 r9.length) then
              Option.bind (Za0 (Zb r247.2) 9) fun r248 =>
              bif r248.1 then
                Option.bind (ZD (V.agg [(V.int .i64 (gi b2 0)), (V.inl Zg r7), (V.inl Zf r8), (V.int .i64 (gi b2 3)), (V.inl Zd r9), (V.inl Ze r10)]) (V.agg [(V.int .i64 (-1)), (V.int .i64 0), (V.int .i64 0), (V.inl Zc []), (V.inl Zc []), (V.int .i64 0)])) fun r249 =>
                Zz k_ n4 (IntKind.i64.wrap (i5 + 1)) (Zb r248.2) (V.agg [(V.int .i64 (gi b1 0)), (V.sl 3 Zg 0 none), (V.sl 4 Zf 0 none), (V.int .i64 (gi b1 3)), (V.sl 5 Zd 0 none), (V.sl 6 Ze 0 none)]) (V.agg [(V.int .i64 (gi r249.2 0)), (V.sl 7 Zg 0 none), (V.sl 8 Zf 0 none), (V.int .i64 (gi r249.2 3)), (V.sl 9 Zd 0 none), (V.sl 10 Ze 0 none)]) r3 r4 r5 r6 (gl r249.2 1) (gl r249.2 2) (gl r249.2 4) (gl r249.2 5)
              else Option.bind (ZD (V.agg [(V.int .i64 (gi b2 0)), (V.inl Zg r7), (V.inl Zf r8), (V.int .i64 (gi b2 3)), (V.inl Zd r9), (V.inl Ze r10)]) (V.agg [(V.int .i64 r209.1), (V.int .i64 (IntKind.i64.wrap (1 + i5))), (V.int .i64 (gi r210.1 0)), (V.inl Zc (gl r210.1 1)), (V.inl Zc (gl r210.1 2)), (V.int .i64 (gi (rd r9 (0 + r247.1.toNat)) 0))])) fun r250 =>
              Zz k_ n4 (IntKind.i64.wrap (i5 + 1)) (Zb r248.2) (V.agg [(V.int .i64 (gi b1 0)), (V.sl 3 Zg 0 none), (V.sl 4 Zf 0 none), (V.int .i64 (gi b1 3)), (V.sl 5 Zd 0 none), (V.sl 6 Ze 0 none)]) (V.agg [(V.int .i64 (gi r250.2 0)), (V.sl 7 Zg 0 none), (V.sl 8 Zf 0 none), (V.int .i64 (gi r250.2 3)), (V.sl 9 Zd 0 none), (V.sl 10 Ze 0 none)]) r3 r4 r5 r6 (gl r250.2 1) (gl r250.2 2) (gl r250.2 4) (gl r250.2 5)
            else none
          else Option.bind (Za0 (Zb r246.2) 9) fun r251 =>
          bif r251.1 then
            Option.bind (ZD (V.agg [(V.int .i64 (gi b2 0)), (V.inl Zg r7), (V.inl Zf r8), (V.int .i64 (gi b2 3)), (V.inl Zd r9), (V.inl Ze r10)]) (V.agg [(V.int .i64 (-1)), (V.int .i64 0), (V.int .i64 0), (V.inl Zc []), (V.inl Zc []), (V.int .i64 0)])) fun r252 =>
            Zz k_ n4 (IntKind.i64.wrap (i5 + 1)) (Zb r251.2) (V.agg [(V.int .i64 (gi b1 0)), (V.sl 3 Zg 0 none), (V.sl 4 Zf 0 none), (V.int .i64 (gi b1 3)), (V.sl 5 Zd 0 none), (V.sl 6 Ze 0 none)]) (V.agg [(V.int .i64 (gi r252.2 0)), (V.sl 7 Zg 0 none), (V.sl 8 Zf 0 none), (V.int .i64 (gi r252.2 3)), (V.sl 9 Zd 0 none), (V.sl 10 Ze 0 none)]) r3 r4 r5 r6 (gl r252.2 1) (gl r252.2 2) (gl r252.2 4) (gl r252.2 5)
          else Option.bind (ZD (V.agg [(V.int .i64 (gi b2 0)), (V.inl Zg r7), (V.inl Zf r8), (V.int .i64 (gi b2 3)), (V.inl Zd r9), (V.inl Ze r10)]) (V.agg [(V.int .i64 r209.1), (V.int .i64 (IntKind.i64.wrap (1 + i5))), (V.int .i64 (gi r210.1 0)), (V.inl Zc (gl r210.1 1)), (V.inl Zc (gl r210.1 2)), (V.int .i64 (gi r210.1 3))])) fun r253 =>
          Zz k_ n4 (IntKind.i64.wrap (i5 + 1)) (Zb r251.2) (V.agg [(V.int .i64 (gi b1 0)), (V.sl 3 Zg 0 none), (V.sl 4 Zf 0 none), (V.int .i64 (gi b1 3)), (V.sl 5 Zd 0 none), (V.sl 6 Ze 0 none)]) (V.agg [(V.int .i64 (gi r253.2 0)), (V.sl 7 Zg 0 none), (V.sl 8 Zf 0 none), (V.int .i64 (gi r253.2 3)), (V.sl 9 Zd 0 none), (V.sl 10 Ze 0 none)]) r3 r4 r5 r6 (gl r253.2 1) (gl r253.2 2) (gl r253.2 4) (gl r253.2 5)
        else Option.bind (Za0 (Zb r210.2) 9) fun r254 =>
        bif r254.1 then
          Option.bind (ZD (V.agg [(V.int .i64 (gi b2 0)), (V.inl Zg r7), (V.inl Zf r8), (V.int .i64 (gi b2 3)), (V.inl Zd r9), (V.inl Ze r10)]) (V.agg [(V.int .i64 (-1)), (V.int .i64 0), (V.int .i64 0), (V.inl Zc []), (V.inl Zc []), (V.int .i64 0)])) fun r255 =>
          Zz k_ n4 (IntKind.i64.wrap (i5 + 1)) (Zb r254.2) (V.agg [(V.int .i64 (gi b1 0)), (V.sl 3 Zg 0 none), (V.sl 4 Zf 0 none), (V.int .i64 (gi b1 3)), (V.sl 5 Zd 0 none), (V.sl 6 Ze 0 none)]) (V.agg [(V.int .i64 (gi r255.2 0)), (V.sl 7 Zg 0 none), (V.sl 8 Zf 0 none), (V.int .i64 (gi r255.2 3)), (V.sl 9 Zd 0 none), (V.sl 10 Ze 0 none)]) r3 r4 r5 r6 (gl r255.2 1) (gl r255.2 2) (gl r255.2 4) (gl r255.2 5)
        else Option.bind (ZD (V.agg [(V.int .i64 (gi b2 0)), (V.inl Zg r7), (V.inl Zf r8), (V.int .i64 (gi b2 3)), (V.inl Zd r9), (V.inl Ze r10)]) (V.agg [(V.int .i64 r209.1), (V.int .i64 (IntKind.i64.wrap (1 + i5))), (V.int .i64 (gi r210.1 0)), (V.inl Zc (gl r210.1 1)), (V.inl Zc (gl r210.1 2)), (V.int .i64 (gi r210.1 3))])) fun r256 =>
        Zz k_ n4 (IntKind.i64.wrap (i5 + 1)) (Zb r254.2) (V.agg [(V.int .i64 (gi b1 0)), (V.sl 3 Zg 0 none), (V.sl 4 Zf 0 none), (V.int .i64 (gi b1 3)), (V.sl 5 Zd 0 none), (V.sl 6 Ze 0 none)]) (V.agg [(V.int .i64 (gi r256.2 0)), (V.sl 7 Zg 0 none), (V.sl 8 Zf 0 none), (V.int .i64 (gi r256.2 3)), (V.sl 9 Zd 0 none), (V.sl 10 Ze 0 none)]) r3 r4 r5 r6 (gl r256.2 1) (gl r256.2 2) (gl r256.2 4) (gl r256.2 5)
      else Option.bind (Za0 (Zb r210.2) 9) fun r257 =>
      bif r257.1 then
        Option.bind (ZD (V.agg [(V.int .i64 (gi b2 0)), (V.inl Zg r7), (V.inl Zf r8), (V.int .i64 (gi b2 3)), (V.inl Zd r9), (V.inl Ze r10)]) (V.agg [(V.int .i64 (-1)), (V.int .i64 0), (V.int .i64 0), (V.inl Zc []), (V.inl Zc []), (V.int .i64 0)])) fun r258 =>
        Zz k_ n4 (IntKind.i64.wrap (i5 + 1)) (Zb r257.2) (V.agg [(V.int .i64 (gi b1 0)), (V.sl 3 Zg 0 none), (V.sl 4 Zf 0 none), (V.int .i64 (gi b1 3)), (V.sl 5 Zd 0 none), (V.sl 6 Ze 0 none)]) (V.agg [(V.int .i64 (gi r258.2 0)), (V.sl 7 Zg 0 none), (V.sl 8 Zf 0 none), (V.int .i64 (gi r258.2 3)), (V.sl 9 Zd 0 none), (V.sl 10 Ze 0 none)]) r3 r4 r5 r6 (gl r258.2 1) (gl r258.2 2) (gl r258.2 4) (gl r258.2 5)
      else Option.bind (ZD (V.agg [(V.int .i64 (gi b2 0)), (V.inl Zg r7), (V.inl Zf r8), (V.int .i64 (gi b2 3)), (V.inl Zd r9), (V.inl Ze r10)]) (V.agg [(V.int .i64 r209.1), (V.int .i64 (IntKind.i64.wrap (1 + i5))), (V.int .i64 (gi r210.1 0)), (V.inl Zc (gl r210.1 1)), (V.inl Zc (gl r210.1 2)), (V.int .i64 (gi r210.1 3))])) fun r259 =>
      Zz k_ n4 (IntKind.i64.wrap (i5 + 1)) (Zb r257.2) (V.agg [(V.int .i64 (gi b1 0)), (V.sl 3 Zg 0 none), (V.sl 4 Zf 0 none), (V.int .i64 (gi b1 3)), (V.sl 5 Zd 0 none), (V.sl 6 Ze 0 none)]) (V.agg [(V.int .i64 (gi r259.2 0)), (V.sl 7 Zg 0 none), (V.sl 8 Zf 0 none), (V.int .i64 (gi r259.2 3)), (V.sl 9 Zd 0 none), (V.sl 10 Ze 0 none)]) r3 r4 r5 r6 (gl r259.2 1) (gl r259.2 2) (gl r259.2 4) (gl r259.2 5)
    else some ((Zb b0), (V.agg [(V.int .i64 (gi b1 0)), (V.sl 3 Zg 0 none), (V.sl 4 Zf 0 none), (V.int .i64 (gi b1 3)), (V.sl 5 Zd 0 none), (V.sl 6 Ze 0 none)]), (V.agg [(V.int .i64 (gi b2 0)), (V.sl 7 Zg 0 none), (V.sl 8 Zf 0 none), (V.int .i64 (gi b2 3)), (V.sl 9 Zd 0 none), (V.sl 10 Ze 0 none)]), r3, r4, r5, r6, r7, r8, r9, r10)
def Zdy (c : V) : Option (V × V) :=
  Option.bind (Zh (Zb c) 20) fun r208 =>
  Option.bind (Zz ((r208.1 - 0).toNat + 1) r208.1 0 (Zb r208.2) (V.agg [(V.int .i64 0), (V.sl 3 Zg 0 none), (V.sl 4 Zf 0 none), (V.int .i64 0), (V.sl 5 Zd 0 none), (V.sl 6 Ze 0 none)]) (V.agg [(V.int .i64 0), (V.sl 7 Zg 0 none), (V.sl 8 Zf 0 none), (V.int .i64 0), (V.sl 9 Zd 0 none), (V.sl 10 Ze 0 none)]) [] [] [] [] [] [] [] []) fun r260 =>
  some ((V.agg [(V.int .i64 (gi r260.2.2.1 0)), (V.inl Zg r260.2.2.2.2.2.2.2.1), (V.inl Zf r260.2.2.2.2.2.2.2.2.1), (V.int .i64 (gi r260.2.2.1 3)), (V.inl Zd r260.2.2.2.2.2.2.2.2.2.1), (V.inl Ze r260.2.2.2.2.2.2.2.2.2.2)]), (Zb r260.1))
def ZdL (c : V) : Option (V × V) :=
  Option.bind (Zdy (Zb c)) fun r261 =>
  Option.bind (Za0 (Zb r261.2) 6) fun r262 =>
  bif (!r262.1) then
    some ((Za r261.1), (Zb r262.2))
  else Option.bind (Zh (Zb r262.2) 8) fun r263 =>
  bif (decide (r263.1 = 0)) then
    Option.bind (Za3 (Zb r263.2) [(V.int .i64 (-1)), (V.int .i64 0), (V.int .i64 1000000), (V.int .i64 1000001)]) fun r264 =>
    some ((V.agg [(V.int .i64 r264.1), (V.inl Zg (gl r261.1 1)), (V.inl Zf (gl r261.1 2)), (V.int .i64 (gi r261.1 3)), (V.inl Zd (gl r261.1 4)), (V.inl Ze (gl r261.1 5))]), (Zb r264.2))
  else bif (decide (r263.1 = 1)) then
    bif (decide ((0 : Int) < (((gl r261.1 1).length : Nat) : Int))) then
      Option.bind (Zh (Zb r263.2) 9) fun r265 =>
      bif (Zm 0 ((gl r261.1 1).length)) then
        some ((V.agg [(V.int .i64 (gi r261.1 0)), (V.inl Zg ((gl r261.1 1).set 0 (V.agg [(V.inl Zc (gl (rd (gl r261.1 1) 0) 0)), (V.inl Zc (gl (rd (gl r261.1 1) 0) 1)), (V.int .i64 (gi (rd (gl r261.1 1) 0) 2)), (V.int .i64 r265.1)]))), (V.inl Zf (gl r261.1 2)), (V.int .i64 (gi r261.1 3)), (V.inl Zd (gl r261.1 4)), (V.inl Ze (gl r261.1 5))]), (Zb r265.2))
      else none
    else some ((Za r261.1), (Zb r263.2))
  else bif (decide (r263.1 = 2)) then
    bif (decide ((0 : Int) < (((gl r261.1 1).length : Nat) : Int))) then
      Option.bind (Za3 (Zb r263.2) [(V.int .i64 0), (V.int .i64 1), (V.int .i64 999)]) fun r266 =>
      bif (Zm 0 ((gl r261.1 1).length)) then
        some ((V.agg [(V.int .i64 (gi r261.1 0)), (V.inl Zg ((gl r261.1 1).set 0 (V.agg [(V.inl Zc (gl (rd (gl r261.1 1) 0) 0)), (V.inl Zc (gl (rd (gl r261.1 1) 0) 1)), (V.int .i64 r266.1), (V.int .i64 (gi (rd (gl r261.1 1) 0) 3))]))), (V.inl Zf (gl r261.1 2)), (V.int .i64 (gi r261.1 3)), (V.inl Zd (gl r261.1 4)), (V.inl Ze (gl r261.1 5))]), (Zb r266.2))
      else none
    else some ((Za r261.1), (Zb r263.2))
  else bif (decide (r263.1 = 3)) then
    Option.bind (ZaM (Zb r263.2)) fun r267 =>
    bif ((Zv (((gl r261.1 2).length) + 1) 32) && true) then
      some ((V.agg [(V.int .i64 (gi r261.1 0)), (V.inl Zg (gl r261.1 1)), (V.inl Zf ((gl r261.1 2) ++ [(V.agg [(V.inl Zc r267.1), (V.int .i64 (gi r261.1 0))])])), (V.int .i64 (gi r261.1 3)), (V.inl Zd (gl r261.1 4)), (V.inl Ze (gl r261.1 5))]), (Zb r267.2))
    else none
  else bif (decide (r263.1 = 4)) then
    Option.bind (Za3 (Zb r263.2) [(V.int .i64 (-1)), (V.int .i64 1), (V.int .i64 5)]) fun r268 =>
    some ((V.agg [(V.int .i64 (gi r261.1 0)), (V.inl Zg (gl r261.1 1)), (V.inl Zf (gl r261.1 2)), (V.int .i64 r268.1), (V.inl Zd (gl r261.1 4)), (V.inl Ze (gl r261.1 5))]), (Zb r268.2))
  else bif (decide (r263.1 = 5)) then
    Option.bind (Zh (Zb r263.2) 9) fun r269 =>
    bif ((Zv (((gl r261.1 4).length) + 1) 16) && true) then
      some ((V.agg [(V.int .i64 (gi r261.1 0)), (V.inl Zg (gl r261.1 1)), (V.inl Zf (gl r261.1 2)), (V.int .i64 (gi r261.1 3)), (V.inl Zd ((gl r261.1 4) ++ [(V.agg [(V.int .i64 r269.1), (V.bool false)])])), (V.inl Ze (gl r261.1 5))]), (Zb r269.2))
    else none
  else bif (decide (r263.1 = 6)) then
    Option.bind (Zh (Zb r263.2) 6) fun r270 =>
    bif ((Zv (((gl r261.1 5).length) + 1) 32) && true) then
      some ((V.agg [(V.int .i64 (gi r261.1 0)), (V.inl Zg (gl r261.1 1)), (V.inl Zf (gl r261.1 2)), (V.int .i64 (gi r261.1 3)), (V.inl Zd (gl r261.1 4)), (V.inl Ze ((gl r261.1 5) ++ [(V.agg [(V.int .i64 (IntKind.i64.wrap (r270.1 - 1))), (V.int .i64 1), (V.int .i64 0), (V.int .i64 1)])]))]), (Zb r270.2))
    else none
  else bif (decide ((0 : Int) < (((gl r261.1 1).length : Nat) : Int))) then
    Option.bind (Zh (Zb r263.2) 3) fun r271 =>
    bif (Zm r271.1 3) then
      bif (Zm 0 ((gl r261.1 1).length)) then
        some ((V.agg [(V.int .i64 (gi r261.1 0)), (V.inl Zg ((gl r261.1 1).set 0 (V.agg [(V.inl Zc (gs (rd [(V.str []), (V.str [(V.int .u8 65)]), (V.str [(V.int .u8 122), (V.int .u8 122)])] (0 + r271.1.toNat)) 0)), (V.inl Zc (gl (rd (gl r261.1 1) 0) 1)), (V.int .i64 (gi (rd (gl r261.1 1) 0) 2)), (V.int .i64 (gi (rd (gl r261.1 1) 0) 3))]))), (V.inl Zf (gl r261.1 2)), (V.int .i64 (gi r261.1 3)), (V.inl Zd (gl r261.1 4)), (V.inl Ze (gl r261.1 5))]), (Zb r271.2))
      else none
    else none
  else some ((Za r261.1), (Zb r263.2))
def Zdd (code : List V) : Option (V × Int) :=
  Option.bind (Zdx code) fun r2 =>
  Option.bind (ZdL (Zb r2)) fun r272 =>
  bif (decide ((0 : Int) < (((gl r272.1 4).length : Nat) : Int))) then
    Option.bind (Za0 (Zb r272.2) 4) fun r273 =>
    bif (!r273.1) then
      Option.bind (Zh (Zb r273.2) (((gl r272.1 4).length : Nat) : Int)) fun r274 =>
      bif (Zm r274.1 ((gl r272.1 4).length)) then
        some ((Za r272.1), (gi (rd (gl r272.1 4) (0 + r274.1.toNat)) 0))
      else none
    else Option.bind (Zh (Zb r273.2) 9) fun r275 =>
    some ((Za r272.1), (IntKind.i64.wrap (r275.1 - 1)))
  else Option.bind (Zh (Zb r272.2) 9) fun r276 =>
  some ((Za r272.1), (IntKind.i64.wrap (r276.1 - 1)))
def Zdz (n : Int) : Bool :=
  bif (decide ((0 : Int) ≤ n)) then
    (decide (n ≤ 1000000))
  else false
def Zbb : Nat → List V → Int → Option (Nat × Bool)
  | 0, _, _ => none
  | k_ + 1, b0, i3 =>
    bif (decide (i3 < ((b0.length : Nat) : Int))) then
      bif (Zm i3 b0.length) then
        bif (decide ((gi (rd b0 i3.toNat) 0) < 97)) then
          bif (Zm i3 b0.length) then
            bif (!(decide ((gi (rd b0 i3.toNat) 0) = 47))) then
              some (0, false)
            else Zbb k_ b0 (IntKind.i64.wrap (i3 + 1))
          else none
        else bif (Zm i3 b0.length) then
          bif (decide ((122 : Int) < (gi (rd b0 i3.toNat) 0))) then
            bif (Zm i3 b0.length) then
              bif (!(decide ((gi (rd b0 i3.toNat) 0) = 47))) then
                some (0, false)
              else Zbb k_ b0 (IntKind.i64.wrap (i3 + 1))
            else none
          else Zbb k_ b0 (IntKind.i64.wrap (i3 + 1))
        else none
      else none
    else some (1, false)
def ZdA (b : List V) : Option (Bool) :=
  bif (decide (((b.length : Nat) : Int) < 1)) then
    some false
  else bif (decide ((20 : Int) < ((b.length : Nat) : Int))) then
    some false
  else Option.bind (Zbb ((((b.length : Nat) : Int) - 0).toNat + 1) b 0) fun r278 =>
  bif (Nat.beq r278.1 0) then
    some r278.2
  else some true
def spec_l2val (b : List V) : Bool :=
  (decide (((b.length : Nat) : Int) ≤ 20))
def Zaj : Nat → Int → V → Option (Nat × Bool × V)
  | 0, _, _ => none
  | k_ + 1, i3, b0 =>
    bif (decide (i3 < (((gl b0 1).length : Nat) : Int))) then
      bif (Zm i3 ((gl b0 1).length)) then
        Option.bind (ZdA (gl (rd (gl b0 1) i3.toNat) 0)) fun r279 =>
        bif (!r279) then
          some (0, false, (Za b0))
        else bif (!(spec_l2val (gl (rd (gl b0 1) i3.toNat) 1))) then
          some (0, false, (Za b0))
        else bif (decide ((gi (rd (gl b0 1) i3.toNat) 2) < 1)) then
          some (0, false, (Za b0))
        else bif (decide ((gi b0 0) < (gi (rd (gl b0 1) i3.toNat) 2))) then
          some (0, false, (Za b0))
        else bif (!(decide ((gi (rd (gl b0 1) i3.toNat) 3) = 0))) then
          Option.bind (Zbh (Za b0) (gi (rd (gl b0 1) i3.toNat) 3)) fun r280 =>
          bif (decide (r280 < 0)) then
            some (0, false, (Za b0))
          else bif (decide ((0 : Int) < i3)) then
            bif (Zm (IntKind.i64.wrap (i3 - 1)) ((gl b0 1).length)) then
              bif (!(ZbK ((gl (rd (gl b0 1) ((IntKind.i64.wrap (i3 - 1)).toNat)) 0).map Zau) ((gl (rd (gl b0 1) i3.toNat) 0).map Zau))) then
                some (0, false, (Za b0))
              else Zaj k_ (IntKind.i64.wrap (i3 + 1)) (Za b0)
            else none
          else Zaj k_ (IntKind.i64.wrap (i3 + 1)) (Za b0)
        else bif (decide ((0 : Int) < i3)) then
          bif (Zm (IntKind.i64.wrap (i3 - 1)) ((gl b0 1).length)) then
            bif (!(ZbK ((gl (rd (gl b0 1) ((IntKind.i64.wrap (i3 - 1)).toNat)) 0).map Zau) ((gl (rd (gl b0 1) i3.toNat) 0).map Zau))) then
              some (0, false, (Za b0))
            else Zaj k_ (IntKind.i64.wrap (i3 + 1)) (Za b0)
          else none
        else Zaj k_ (IntKind.i64.wrap (i3 + 1)) (Za b0)
      else none
    else some (1, false, (Za b0))
def ZaE : Nat → Int → V → Option (Nat × Bool × V)
  | 0, _, _ => none
  | k_ + 1, i5, b0 =>
    bif (decide (i5 < (((gl b0 2).length : Nat) : Int))) then
      bif (Zm i5 ((gl b0 2).length)) then
        Option.bind (ZdA (gl (rd (gl b0 2) i5.toNat) 0)) fun r282 =>
        bif (!r282) then
          some (0, false, (Za b0))
        else Option.bind (ZaQ (Za b0) (gl (rd (gl b0 2) i5.toNat) 0)) fun r283 =>
        bif (decide ((0 : Int) ≤ r283)) then
          some (0, false, (Za b0))
        else Option.bind (ZcQ (Za b0) (gl (rd (gl b0 2) i5.toNat) 0)) fun r284 =>
        bif (!(decide (r284 = i5))) then
          some (0, false, (Za b0))
        else bif (decide ((gi (rd (gl b0 2) i5.toNat) 1) < 1)) then
          some (0, false, (Za b0))
        else bif (decide ((gi b0 0) < (gi (rd (gl b0 2) i5.toNat) 1))) then
          some (0, false, (Za b0))
        else bif (decide ((gi (rd (gl b0 2) i5.toNat) 1) < (gi b0 3))) then
          some (0, false, (Za b0))
        else bif (decide ((0 : Int) < i5)) then
          bif (Zm (IntKind.i64.wrap (i5 - 1)) ((gl b0 2).length)) then
            bif (decide ((gi (rd (gl b0 2) i5.toNat) 1) < (gi (rd (gl b0 2) ((IntKind.i64.wrap (i5 - 1)).toNat)) 1))) then
              some (0, false, (Za b0))
            else ZaE k_ (IntKind.i64.wrap (i5 + 1)) (Za b0)
          else none
        else ZaE k_ (IntKind.i64.wrap (i5 + 1)) (Za b0)
      else none
    else some (1, false, (Za b0))
def ZaF : Nat → Int → V → Option (Nat × Bool × V)
  | 0, _, _ => none
  | k_ + 1, i7, b0 =>
    bif (decide (i7 < (((gl b0 4).length : Nat) : Int))) then
      bif (Zm i7 ((gl b0 4).length)) then
        bif (decide ((gi (rd (gl b0 4) i7.toNat) 0) < 1)) then
          some (0, false, (Za b0))
        else bif (Zm i7 ((gl b0 4).length)) then
          bif (decide ((gi b0 0) < (gi (rd (gl b0 4) i7.toNat) 0))) then
            some (0, false, (Za b0))
          else bif (decide ((0 : Int) < i7)) then
            bif (Zm (IntKind.i64.wrap (i7 - 1)) ((gl b0 4).length)) then
              bif (Zm i7 ((gl b0 4).length)) then
                bif (decide ((gi (rd (gl b0 4) i7.toNat) 0) ≤ (gi (rd (gl b0 4) ((IntKind.i64.wrap (i7 - 1)).toNat)) 0))) then
                  some (0, false, (Za b0))
                else ZaF k_ (IntKind.i64.wrap (i7 + 1)) (Za b0)
              else none
            else none
          else ZaF k_ (IntKind.i64.wrap (i7 + 1)) (Za b0)
        else none
      else none
    else some (1, false, (Za b0))
def ZaG : Nat → Int → V → Option (Nat × Bool)
  | 0, _, _ => none
  | k_ + 1, i8, b0 =>
    bif (decide (i8 < (((gl b0 5).length : Nat) : Int))) then
      bif (Zm i8 ((gl b0 5).length)) then
        bif (decide ((gi (rd (gl b0 5) i8.toNat) 0) < 0)) then
          some (0, false)
        else bif (decide ((4 : Int) ≤ (gi (rd (gl b0 5) i8.toNat) 0))) then
          some (0, false)
        else bif (decide ((gi (rd (gl b0 5) i8.toNat) 1) < 1)) then
          some (0, false)
        else bif (decide ((1000000 : Int) < (gi (rd (gl b0 5) i8.toNat) 1))) then
          some (0, false)
        else bif (decide ((gi (rd (gl b0 5) i8.toNat) 2) < 0)) then
          some (0, false)
        else bif (decide ((5 : Int) < (gi (rd (gl b0 5) i8.toNat) 2))) then
          some (0, false)
        else bif (decide ((gi (rd (gl b0 5) i8.toNat) 3) < 1)) then
          some (0, false)
        else bif (decide ((gi b0 0) < (gi (rd (gl b0 5) i8.toNat) 3))) then
          some (0, false)
        else bif (decide ((0 : Int) < i8)) then
          bif (Zm (IntKind.i64.wrap (i8 - 1)) ((gl b0 5).length)) then
            bif (decide ((gi (rd (gl b0 5) i8.toNat) 0) ≤ (gi (rd (gl b0 5) ((IntKind.i64.wrap (i8 - 1)).toNat)) 0))) then
              some (0, false)
            else ZaG k_ (IntKind.i64.wrap (i8 + 1)) (Za b0)
          else none
        else ZaG k_ (IntKind.i64.wrap (i8 + 1)) (Za b0)
      else none
    else some (1, false)
def ZdB (s : V) : Option (Bool) :=
  bif (!(Zdz (gi s 0))) then
    some false
  else bif (decide ((20 : Int) < (((gl s 1).length : Nat) : Int))) then
    some false
  else bif (decide ((10 : Int) < (((gl s 2).length : Nat) : Int))) then
    some false
  else bif (decide ((gi s 3) < 0)) then
    some false
  else bif (decide ((gi s 0) < (gi s 3))) then
    some false
  else bif (decide ((8 : Int) < (((gl s 4).length : Nat) : Int))) then
    some false
  else bif (decide ((4 : Int) < (((gl s 5).length : Nat) : Int))) then
    some false
  else Option.bind (Zaj (((((gl (Za s) 1).length : Nat) : Int) - 0).toNat + 1) 0 (Za s)) fun r281 =>
  bif (Nat.beq r281.1 0) then
    some r281.2.1
  else Option.bind (ZaE (((((gl (Za r281.2.2) 2).length : Nat) : Int) - 0).toNat + 1) 0 (Za r281.2.2)) fun r285 =>
  bif (Nat.beq r285.1 0) then
    some r285.2.1
  else Option.bind (ZaF (((((gl (Za r285.2.2) 4).length : Nat) : Int) - 0).toNat + 1) 0 (Za r285.2.2)) fun r286 =>
  bif (Nat.beq r286.1 0) then
    some r286.2.1
  else Option.bind (ZaG (((((gl (Za r286.2.2) 5).length : Nat) : Int) - 0).toNat + 1) 0 (Za r286.2.2)) fun r287 =>
  bif (Nat.beq r287.1 0) then
    some r287.2
  else some true
def ZC (n : Int) (low : Int) (high : Int) : Bool :=
  bif (decide (low ≤ n)) then
    (decide (n ≤ high))
  else false
def Zbc : Nat → List V → List V → Int → Int → Option (Nat × List V × Bool)
  | 0, _, _, _, _ => none
  | k_ + 1, b0, v5, v6, v7 =>
    bif (decide (v7 < v6)) then
      bif (Zm v7 v5.length) then
        bif (decide ((gi (rd v5 v7.toNat) 0) < 97)) then
          bif (!(decide ((gi (rd v5 v7.toNat) 0) = 47))) then
            some (0, b0, false)
          else Zbc k_ b0 v5 v6 (IntKind.i64.wrap (v7 + 1))
        else bif (decide ((122 : Int) < (gi (rd v5 v7.toNat) 0))) then
          bif (!(decide ((gi (rd v5 v7.toNat) 0) = 47))) then
            some (0, b0, false)
          else Zbc k_ b0 v5 v6 (IntKind.i64.wrap (v7 + 1))
        else Zbc k_ b0 v5 v6 (IntKind.i64.wrap (v7 + 1))
      else none
    else some (1, b0, false)
def Zbj (b : List V) : Option (Bool) :=
  Option.bind (Zbc ((((b.length : Nat) : Int) - 0).toNat + 1) b b ((b.length : Nat) : Int) 0) fun r289 =>
  bif (Nat.beq r289.1 0) then
    some r289.2.2
  else some (ZC ((r289.2.1.length : Nat) : Int) 1 20)
def Zcy (b : List V) : Bool :=
  (decide (((b.length : Nat) : Int) ≤ 20))
def ZdC (x : V) (a1 : V) : Bool :=
  (decide ((gi x 0) = (gi a1 0)))
def ZZ : Nat → List V → V → Int → Int → Option (Nat × Int)
  | 0, _, _, _, _ => none
  | k_ + 1, s0, f1_0, v7, v8 =>
    bif (decide (v8 < v7)) then
      bif (Zm v8 s0.length) then
        bif ZdC (Zcv (rd s0 v8.toNat)) (V.agg [(V.int .i64 (gi f1_0 0))]) then
          some (0, v8)
        else ZZ k_ s0 (V.agg [(V.int .i64 (gi f1_0 0))]) v7 (IntKind.i64.wrap (v8 + 1))
      else none
    else some (1, 0)
def Zb3 (s : List V) (f_0 : V) : Option (Int) :=
  Option.bind (ZZ ((((s.length : Nat) : Int) - 0).toNat + 1) s (V.agg [(V.int .i64 (gi f_0 0))]) ((s.length : Nat) : Int) 0) fun r291 =>
  bif (Nat.beq r291.1 0) then
    some r291.2
  else some (-1)
def ZaZ (s : V) (id : Int) : Option (Int) :=
  Option.bind (Zb3 (gl s 4) (V.agg [(V.int .i64 id)])) fun r292 =>
  some r292
def ZcK (r : V) (key : List V) : Int :=
  (cmpV (gl r 0) key)
def ZG : Nat → List V → List V → Int → Int → Int → Option (List V × List V × Int × Int)
  | 0, _, _, _, _, _ => none
  | k_ + 1, x0, target1, n8, i9, j10 =>
    bif (decide (i9 < j10)) then
      bif (Zm (IntKind.i64.wrap (sShr .u64 (IntKind.u64.wrap (IntKind.i64.wrap (i9 + j10))) 1)) x0.length) then
        bif (decide ((ZcK (n_impl_Row (rd x0 ((IntKind.i64.wrap (sShr .u64 (IntKind.u64.wrap (IntKind.i64.wrap (i9 + j10))) 1)).toNat))) target1) < 0)) then
          ZG k_ x0 target1 n8 (IntKind.i64.wrap ((IntKind.i64.wrap (sShr .u64 (IntKind.u64.wrap (IntKind.i64.wrap (i9 + j10))) 1)) + 1)) j10
        else ZG k_ x0 target1 n8 i9 (IntKind.i64.wrap (sShr .u64 (IntKind.u64.wrap (IntKind.i64.wrap (i9 + j10))) 1))
      else none
    else some (x0, target1, n8, i9)
def Za4 (x : List V) (target : List V) : Option (Int × Bool) :=
  Option.bind (ZG ((((x.length : Nat) : Int) - 0).toNat + 1) x target ((x.length : Nat) : Int) 0 ((x.length : Nat) : Int)) fun r295 =>
  bif (decide (r295.2.2.2 < r295.2.2.1)) then
    bif (Zm r295.2.2.2 r295.1.length) then
      some (r295.2.2.2, (decide ((ZcK (n_impl_Row (rd r295.1 r295.2.2.2.toNat)) r295.2.1) = 0)))
    else none
  else some (r295.2.2.2, false)
def ZbY (s : V) (key : List V) : Option (Int × Bool) :=
  Option.bind (Za4 (gl s 1) key) fun r296 =>
  some (r296.1, r296.2)
def ZdM (a : List V) (b : List V) : Bool :=
  (ZbA (a.map Zau) (b.map Zau))
def ZdR (t : V) (a1 : V) : Bool :=
  (ZdM (gl t 0) (gl a1 0))
def Z8 : Nat → List V → V → Int → Int → Option (Nat × Int)
  | 0, _, _, _, _ => none
  | k_ + 1, s0, f1_0, v7, v8 =>
    bif (decide (v8 < v7)) then
      bif (Zm v8 s0.length) then
        bif ZdR (n_impl_Tomb (rd s0 v8.toNat)) (V.agg [(V.inl Zc (gl f1_0 0))]) then
          some (0, v8)
        else Z8 k_ s0 (V.agg [(V.inl Zc (gl f1_0 0))]) v7 (IntKind.i64.wrap (v8 + 1))
      else none
    else some (1, 0)
def Zcz (s : List V) (f_0 : V) : Option (Int) :=
  Option.bind (Z8 ((((s.length : Nat) : Int) - 0).toNat + 1) s (V.agg [(V.inl Zc (gl f_0 0))]) ((s.length : Nat) : Int) 0) fun r299 =>
  bif (Nat.beq r299.1 0) then
    some r299.2
  else some (-1)
def Zci (s : V) (key : List V) : Option (Int) :=
  Option.bind (Zcz (gl s 2) (V.agg [(V.inl Zc key)])) fun r300 =>
  some r300
def Zak : Nat → List V → Int → Int → V → Option (Nat × Bool × V)
  | 0, _, _, _, _ => none
  | k_ + 1, v51, v52, v53, b0 =>
    bif (decide (v53 < v52)) then
      bif (Zm v53 v51.length) then
        Option.bind (Zbj (gl (rd v51 v53.toNat) 0)) fun r290 =>
        bif (!r290) then
          some (0, false, (Za b0))
        else bif (!(Zcy (gl (rd v51 v53.toNat) 1))) then
          some (0, false, (Za b0))
        else bif (!(ZC (gi (rd v51 v53.toNat) 2) 1 (gi b0 0))) then
          some (0, false, (Za b0))
        else bif (!(decide ((gi (rd v51 v53.toNat) 3) = 0))) then
          Option.bind (ZaZ (Za b0) (gi (rd v51 v53.toNat) 3)) fun r293 =>
          bif (decide (r293 < 0)) then
            some (0, false, (Za b0))
          else bif (decide ((0 : Int) < v53)) then
            bif (Zm (IntKind.i64.wrap (v53 - 1)) ((gl b0 1).length)) then
              bif (decide ((0 : Int) ≤ (cmpV (gl (rd (gl b0 1) ((IntKind.i64.wrap (v53 - 1)).toNat)) 0) (gl (rd v51 v53.toNat) 0)))) then
                some (0, false, (Za b0))
              else Zak k_ v51 v52 (IntKind.i64.wrap (v53 + 1)) (Za b0)
            else none
          else Zak k_ v51 v52 (IntKind.i64.wrap (v53 + 1)) (Za b0)
        else bif (decide ((0 : Int) < v53)) then
          bif (Zm (IntKind.i64.wrap (v53 - 1)) ((gl b0 1).length)) then
            bif (decide ((0 : Int) ≤ (cmpV (gl (rd (gl b0 1) ((IntKind.i64.wrap (v53 - 1)).toNat)) 0) (gl (rd v51 v53.toNat) 0)))) then
              some (0, false, (Za b0))
            else Zak k_ v51 v52 (IntKind.i64.wrap (v53 + 1)) (Za b0)
          else none
        else Zak k_ v51 v52 (IntKind.i64.wrap (v53 + 1)) (Za b0)
      else none
    else some (1, false, (Za b0))
def ZaH : Nat → Int → List V → Int → Int → V → Option (Nat × Bool × V)
  | 0, _, _, _, _, _ => none
  | k_ + 1, before5, v110, v111, v112, b0 =>
    bif (decide (v112 < v111)) then
      bif (Zm v112 v110.length) then
        Option.bind (ZbY (Za b0) (gl (rd v110 v112.toNat) 0)) fun r297 =>
        bif r297.2 then
          some (0, false, (Za b0))
        else Option.bind (Zbj (gl (rd v110 v112.toNat) 0)) fun r298 =>
        bif (!r298) then
          some (0, false, (Za b0))
        else Option.bind (Zci (Za b0) (gl (rd v110 v112.toNat) 0)) fun r301 =>
        bif (!(decide (r301 = v112))) then
          some (0, false, (Za b0))
        else bif (!(ZC (gi (rd v110 v112.toNat) 1) before5 (gi b0 0))) then
          some (0, false, (Za b0))
        else ZaH k_ (gi (rd v110 v112.toNat) 1) v110 v111 (IntKind.i64.wrap (v112 + 1)) (Za b0)
      else none
    else some (1, false, (Za b0))
def ZaI : Nat → List V → Int → Int → V → Option (Nat × Bool × V)
  | 0, _, _, _, _ => none
  | k_ + 1, v152, v153, v154, b0 =>
    bif (decide (v154 < v153)) then
      bif (Zm v154 v152.length) then
        bif (!(ZC (gi (rd v152 v154.toNat) 0) 1 (gi b0 0))) then
          some (0, false, (Za b0))
        else bif (decide ((0 : Int) < v154)) then
          bif (Zm (IntKind.i64.wrap (v154 - 1)) ((gl b0 4).length)) then
            bif (decide ((gi (rd v152 v154.toNat) 0) ≤ (gi (rd (gl b0 4) ((IntKind.i64.wrap (v154 - 1)).toNat)) 0))) then
              some (0, false, (Za b0))
            else ZaI k_ v152 v153 (IntKind.i64.wrap (v154 + 1)) (Za b0)
          else none
        else ZaI k_ v152 v153 (IntKind.i64.wrap (v154 + 1)) (Za b0)
      else none
    else some (1, false, (Za b0))
def ZaJ : Nat → List V → Int → Int → V → Option (Nat × Bool)
  | 0, _, _, _, _ => none
  | k_ + 1, v183, v184, v185, b0 =>
    bif (decide (v185 < v184)) then
      bif (Zm v185 v183.length) then
        bif (!(ZC (gi (rd v183 v185.toNat) 0) 0 3)) then
          some (0, false)
        else bif (!(ZC (gi (rd v183 v185.toNat) 1) 1 1000000)) then
          some (0, false)
        else bif (!(ZC (gi (rd v183 v185.toNat) 2) 0 5)) then
          some (0, false)
        else bif (!(ZC (gi (rd v183 v185.toNat) 3) 1 (gi b0 0))) then
          some (0, false)
        else bif (decide ((0 : Int) < v185)) then
          bif (Zm (IntKind.i64.wrap (v185 - 1)) ((gl b0 5).length)) then
            bif (decide ((gi (rd v183 v185.toNat) 0) ≤ (gi (rd (gl b0 5) ((IntKind.i64.wrap (v185 - 1)).toNat)) 0))) then
              some (0, false)
            else ZaJ k_ v183 v184 (IntKind.i64.wrap (v185 + 1)) (Za b0)
          else none
        else ZaJ k_ v183 v184 (IntKind.i64.wrap (v185 + 1)) (Za b0)
      else none
    else some (1, false)
def ZcA (s : V) : Option (Bool) :=
  bif (!(ZC (gi s 0) 0 1000000)) then
    some false
  else bif (!(ZC (gi s 3) 0 (gi s 0))) then
    some false
  else bif (decide ((20 : Int) < (((gl s 1).length : Nat) : Int))) then
    some false
  else bif (decide ((10 : Int) < (((gl s 2).length : Nat) : Int))) then
    some false
  else bif (decide ((8 : Int) < (((gl s 4).length : Nat) : Int))) then
    some false
  else bif (decide ((4 : Int) < (((gl s 5).length : Nat) : Int))) then
    some false
  else Option.bind (Zak (((((gl s 1).length : Nat) : Int) - 0).toNat + 1) (gl s 1) (((gl s 1).length : Nat) : Int) 0 (Za s)) fun r294 =>
  bif (Nat.beq r294.1 0) then
    some r294.2.1
  else Option.bind (ZaH (((((gl r294.2.2 2).length : Nat) : Int) - 0).toNat + 1) (mxI 1 (gi r294.2.2 3)) (gl r294.2.2 2) (((gl r294.2.2 2).length : Nat) : Int) 0 (Za r294.2.2)) fun r302 =>
  bif (Nat.beq r302.1 0) then
    some r302.2.1
  else Option.bind (ZaI (((((gl r302.2.2 4).length : Nat) : Int) - 0).toNat + 1) (gl r302.2.2 4) (((gl r302.2.2 4).length : Nat) : Int) 0 (Za r302.2.2)) fun r303 =>
  bif (Nat.beq r303.1 0) then
    some r303.2.1
  else Option.bind (ZaJ (((((gl r303.2.2 5).length : Nat) : Int) - 0).toNat + 1) (gl r303.2.2 5) (((gl r303.2.2 5).length : Nat) : Int) 0 (Za r303.2.2)) fun r304 =>
  bif (Nat.beq r304.1 0) then
    some r304.2
  else some true
def impl_Held_1 (r : V) (a1 : V) : Bool :=
  (decide ((gi r 3) = (gi a1 0)))
def ZV (s : List V) : Option (List V) :=
  bif ((Zv (0 + s.length) 1) && true) then
    some s
  else none
def Zal : Nat → V → List V → Int → Int → List V → Option (List V)
  | 0, _, _, _, _, _ => none
  | k_ + 1, asked1_0, v9, v10, v11, r0 =>
    bif (decide (v11 < v10)) then
      bif (Zm v11 v9.length) then
        bif impl_Held_1 (n_impl_Row (rd v9 v11.toNat)) (V.agg [(V.int .i64 (gi asked1_0 0))]) then
          Option.bind (ZV (gl (rd v9 v11.toNat) 0)) fun r307 =>
          bif ((Zv (r0.length + 1) 24) && true) then
            Zal k_ (V.agg [(V.int .i64 (gi asked1_0 0))]) v9 v10 (IntKind.i64.wrap (v11 + 1)) (r0 ++ [(V.inl Zc r307)])
          else none
        else Zal k_ (V.agg [(V.int .i64 (gi asked1_0 0))]) v9 v10 (IntKind.i64.wrap (v11 + 1)) r0
      else none
    else some r0
def ZcS (s : V) (asked_0 : V) : Option (List V) :=
  Option.bind (Zal (((((gl s 1).length : Nat) : Int) - 0).toNat + 1) (V.agg [(V.int .i64 (gi asked_0 0))]) (gl s 1) (((gl s 1).length : Nat) : Int) 0 []) fun r308 =>
  some r308
def ZcZ (s : V) (id : Int) : Option (List V) :=
  Option.bind (ZcA (Za s)) fun r305 =>
  bif (!r305) then
    some []
  else Option.bind (ZaZ (Za s) id) fun r306 =>
  bif (decide (r306 < 0)) then
    some []
  else Option.bind (ZcS (Za s) (V.agg [(V.int .i64 id)])) fun r309 =>
  some r309
def impl_noOp : V :=
  (V.agg [(V.int .i64 (-1)), (V.int .i64 0), (V.int .i64 0), (V.inl Zc []), (V.inl Zc []), (V.int .i64 0)])
def impl_Op_same (o : V) (p : V) : Bool :=
  bif (decide ((gi o 0) = (gi p 0))) then
    bif ZdM (gl o 1) (gl p 1) then
      bif ZdM (gl o 2) (gl p 2) then
        (decide ((gi o 3) = (gi p 3)))
      else false
    else false
  else false
def impl_Cmd_same (c : V) (d : V) : Bool :=
  bif (decide ((gi c 0) = (gi d 0))) then
    bif (decide ((gi c 1) = (gi d 1))) then
      (impl_Op_same (V.agg [(V.int .i64 (gi c 2)), (V.inl Zc (gl c 3)), (V.inl Zc (gl c 4)), (V.int .i64 (gi c 5))]) (V.agg [(V.int .i64 (gi d 2)), (V.inl Zc (gl d 3)), (V.inl Zc (gl d 4)), (V.int .i64 (gi d 5))]))
    else false
  else false
def impl_OpOk (o : V) : Option (Bool) :=
  bif (decide ((gi o 0) = 0)) then
    bif ZC (gi o 3) 0 0 then
      bif (decide ((((gl o 1).length : Nat) : Int) = 0)) then
        some (decide ((((gl o 2).length : Nat) : Int) = 0))
      else some false
    else some false
  else bif (decide ((gi o 0) = 1)) then
    bif ZC (gi o 3) 0 0 then
      Option.bind (Zbj (gl o 1)) fun r313 =>
      bif r313 then
        bif Zcy (gl o 2) then
          some true
        else some false
      else some false
    else some false
  else bif (decide ((gi o 0) = 2)) then
    bif ZC (gi o 3) 0 1000000 then
      Option.bind (Zbj (gl o 1)) fun r314 =>
      bif r314 then
        bif Zcy (gl o 2) then
          some true
        else some false
      else some false
    else some false
  else bif (decide ((gi o 0) = 3)) then
    bif ZC (gi o 3) 0 0 then
      Option.bind (Zbj (gl o 1)) fun r315 =>
      bif r315 then
        some (decide ((((gl o 2).length : Nat) : Int) = 0))
      else some false
    else some false
  else bif (decide ((gi o 0) = 4)) then
    bif ZC (gi o 3) 0 1 then
      bif (decide ((((gl o 1).length : Nat) : Int) = 0)) then
        some (decide ((((gl o 2).length : Nat) : Int) = 0))
      else some false
    else some false
  else bif (decide ((gi o 0) = 5)) then
    bif ZC (gi o 3) 1 1000000 then
      bif (decide ((((gl o 1).length : Nat) : Int) = 0)) then
        some (decide ((((gl o 2).length : Nat) : Int) = 0))
      else some false
    else some false
  else bif (decide ((gi o 0) = 6)) then
    bif ZC (gi o 3) 1 1000000 then
      Option.bind (Zbj (gl o 1)) fun r316 =>
      bif r316 then
        bif Zcy (gl o 2) then
          some true
        else some false
      else some false
    else some false
  else bif (decide ((gi o 0) = 7)) then
    bif ZC (gi o 3) 1 1000000 then
      Option.bind (Zbj (gl o 1)) fun r317 =>
      bif r317 then
        some (decide ((((gl o 2).length : Nat) : Int) = 0))
      else some false
    else some false
  else some false
def impl_CmdOk (c : V) : Option (Bool) :=
  bif impl_Cmd_same (Zt c) (Zt impl_noOp) then
    some true
  else bif ZC (gi c 0) 0 3 then
    bif ZC (gi c 1) 1 1000000 then
      Option.bind (impl_OpOk (V.agg [(V.int .i64 (gi c 2)), (V.inl Zc (gl c 3)), (V.inl Zc (gl c 4)), (V.int .i64 (gi c 5))])) fun r318 =>
      some r318
    else some false
  else some false
def Zb4 (s : List V) : Option (List V) :=
  bif ((Zv (0 + s.length) 64) && true) then
    some s
  else none
def ZbM (s : List V) : Option (List V) :=
  bif ((Zv (0 + s.length) 32) && true) then
    some s
  else none
def Zbk (s : List V) : Option (List V) :=
  bif ((Zv (0 + s.length) 16) && true) then
    some s
  else none
def ZbN (s : List V) : Option (List V) :=
  bif ((Zv (0 + s.length) 32) && true) then
    some s
  else none
def ZaO : Nat → Int → Int → V → V → List V → List V → List V → List V → List V → List V → List V → List V → Option (V × V × List V × List V × List V × List V × List V × List V × List V × List V)
  | 0, _, _, _, _, _, _, _, _, _, _, _, _ => none
  | k_ + 1, v25, v26, b0, b1, r2, r3, r4, r5, r6, r7, r8, r9 =>
    bif (decide (v26 < v25)) then
      bif (Zm v26 r2.length) then
        Option.bind (ZV (gl (rd r2 (0 + v26.toNat)) 0)) fun r328 =>
        Option.bind (ZV (gl (rd r2 (0 + v26.toNat)) 1)) fun r329 =>
        bif (Zm v26 r2.length) then
          bif (Zm v26 ((r2.set (0 + v26.toNat) (V.agg [(V.inl Zc r328), (V.inl Zc (gl (rd r2 (0 + v26.toNat)) 1)), (V.int .i64 (gi (rd r2 (0 + v26.toNat)) 2)), (V.int .i64 (gi (rd r2 (0 + v26.toNat)) 3))])).length)) then
            ZaO k_ v25 (IntKind.i64.wrap (v26 + 1)) (V.agg [(V.int .i64 (gi b0 0)), (V.sl 2 Zg 0 none), (V.sl 3 Zf 0 none), (V.int .i64 (gi b0 3)), (V.sl 4 Zd 0 none), (V.sl 5 Ze 0 none)]) (V.agg [(V.int .i64 (gi b1 0)), (V.sl 6 Zg 0 none), (V.sl 7 Zf 0 none), (V.int .i64 (gi b1 3)), (V.sl 8 Zd 0 none), (V.sl 9 Ze 0 none)]) ((r2.set (0 + v26.toNat) (V.agg [(V.inl Zc r328), (V.inl Zc (gl (rd r2 (0 + v26.toNat)) 1)), (V.int .i64 (gi (rd r2 (0 + v26.toNat)) 2)), (V.int .i64 (gi (rd r2 (0 + v26.toNat)) 3))])).set (0 + v26.toNat) (V.agg [(V.inl Zc (gl (rd (r2.set (0 + v26.toNat) (V.agg [(V.inl Zc r328), (V.inl Zc (gl (rd r2 (0 + v26.toNat)) 1)), (V.int .i64 (gi (rd r2 (0 + v26.toNat)) 2)), (V.int .i64 (gi (rd r2 (0 + v26.toNat)) 3))])) (0 + v26.toNat)) 0)), (V.inl Zc r329), (V.int .i64 (gi (rd (r2.set (0 + v26.toNat) (V.agg [(V.inl Zc r328), (V.inl Zc (gl (rd r2 (0 + v26.toNat)) 1)), (V.int .i64 (gi (rd r2 (0 + v26.toNat)) 2)), (V.int .i64 (gi (rd r2 (0 + v26.toNat)) 3))])) (0 + v26.toNat)) 2)), (V.int .i64 (gi (rd (r2.set (0 + v26.toNat) (V.agg [(V.inl Zc r328), (V.inl Zc (gl (rd r2 (0 + v26.toNat)) 1)), (V.int .i64 (gi (rd r2 (0 + v26.toNat)) 2)), (V.int .i64 (gi (rd r2 (0 + v26.toNat)) 3))])) (0 + v26.toNat)) 3))])) r3 r4 r5 r6 r7 r8 r9
          else none
        else none
      else none
    else some ((V.agg [(V.int .i64 (gi b0 0)), (V.sl 2 Zg 0 none), (V.sl 3 Zf 0 none), (V.int .i64 (gi b0 3)), (V.sl 4 Zd 0 none), (V.sl 5 Ze 0 none)]), (V.agg [(V.int .i64 (gi b1 0)), (V.sl 6 Zg 0 none), (V.sl 7 Zf 0 none), (V.int .i64 (gi b1 3)), (V.sl 8 Zd 0 none), (V.sl 9 Ze 0 none)]), r2, r3, r4, r5, r6, r7, r8, r9)
def ZaP : Nat → Int → Int → V → V → List V → List V → List V → List V → List V → List V → List V → List V → Option (V × V × List V × List V × List V × List V × List V × List V × List V × List V)
  | 0, _, _, _, _, _, _, _, _, _, _, _, _ => none
  | k_ + 1, v50, v51, b0, b1, r2, r3, r4, r5, r6, r7, r8, r9 =>
    bif (decide (v51 < v50)) then
      bif (Zm v51 r2.length) then
        Option.bind (ZV (gl (rd r2 (0 + v51.toNat)) 0)) fun r331 =>
        bif (Zm v51 r2.length) then
          ZaP k_ v50 (IntKind.i64.wrap (v51 + 1)) (V.agg [(V.int .i64 (gi b0 0)), (V.sl 3 Zg 0 none), (V.sl 2 Zf 0 none), (V.int .i64 (gi b0 3)), (V.sl 4 Zd 0 none), (V.sl 5 Ze 0 none)]) (V.agg [(V.int .i64 (gi b1 0)), (V.sl 6 Zg 0 none), (V.sl 7 Zf 0 none), (V.int .i64 (gi b1 3)), (V.sl 8 Zd 0 none), (V.sl 9 Ze 0 none)]) (r2.set (0 + v51.toNat) (V.agg [(V.inl Zc r331), (V.int .i64 (gi (rd r2 (0 + v51.toNat)) 1))])) r3 r4 r5 r6 r7 r8 r9
        else none
      else none
    else some ((V.agg [(V.int .i64 (gi b0 0)), (V.sl 2 Zg 0 none), (V.sl 3 Zf 0 none), (V.int .i64 (gi b0 3)), (V.sl 4 Zd 0 none), (V.sl 5 Ze 0 none)]), (V.agg [(V.int .i64 (gi b1 0)), (V.sl 6 Zg 0 none), (V.sl 7 Zf 0 none), (V.int .i64 (gi b1 3)), (V.sl 8 Zd 0 none), (V.sl 9 Ze 0 none)]), r3, r2, r4, r5, r6, r7, r8, r9)
def Zc5 (s : V) : Option (V) :=
  Option.bind (Zb4 (gl s 1)) fun r324 =>
  Option.bind (ZbM (gl s 2)) fun r325 =>
  Option.bind (Zbk (gl s 4)) fun r326 =>
  Option.bind (ZbN (gl s 5)) fun r327 =>
  Option.bind (ZaO ((((r324.length : Nat) : Int) - 0).toNat + 1) ((r324.length : Nat) : Int) 0 (V.agg [(V.int .i64 (gi s 0)), (V.sl 2 Zg 0 none), (V.sl 3 Zf 0 none), (V.int .i64 (gi s 3)), (V.sl 4 Zd 0 none), (V.sl 5 Ze 0 none)]) (V.agg [(V.int .i64 0), (V.sl 6 Zg 0 none), (V.sl 7 Zf 0 none), (V.int .i64 0), (V.sl 8 Zd 0 none), (V.sl 9 Ze 0 none)]) r324 r325 r326 r327 [] [] [] []) fun r330 =>
  Option.bind (ZaP ((((r330.2.2.2.1.length : Nat) : Int) - 0).toNat + 1) ((r330.2.2.2.1.length : Nat) : Int) 0 (V.agg [(V.int .i64 (gi r330.1 0)), (V.sl 3 Zg 0 none), (V.sl 2 Zf 0 none), (V.int .i64 (gi r330.1 3)), (V.sl 4 Zd 0 none), (V.sl 5 Ze 0 none)]) (V.agg [(V.int .i64 (gi r330.2.1 0)), (V.sl 6 Zg 0 none), (V.sl 7 Zf 0 none), (V.int .i64 (gi r330.2.1 3)), (V.sl 8 Zd 0 none), (V.sl 9 Ze 0 none)]) r330.2.2.2.1 r330.2.2.1 r330.2.2.2.2.1 r330.2.2.2.2.2.1 r330.2.2.2.2.2.2.1 r330.2.2.2.2.2.2.2.1 r330.2.2.2.2.2.2.2.2.1 r330.2.2.2.2.2.2.2.2.2) fun r332 =>
  some (V.agg [(V.int .i64 (gi r332.1 0)), (V.inl Zg r332.2.2.1), (V.inl Zf r332.2.2.2.1), (V.int .i64 (gi r332.1 3)), (V.inl Zd r332.2.2.2.2.1), (V.inl Ze r332.2.2.2.2.2.1)])
def ZbO (l : V) (client : Int) : Int :=
  (IntKind.i64.wrap ((gi l 0) - client))
def ZK : Nat → List V → Int → Int → Int → Int → Option (List V × Int × Int × Int)
  | 0, _, _, _, _, _ => none
  | k_ + 1, x0, target1, n8, i9, j10 =>
    bif (decide (i9 < j10)) then
      bif (Zm (IntKind.i64.wrap (sShr .u64 (IntKind.u64.wrap (IntKind.i64.wrap (i9 + j10))) 1)) x0.length) then
        bif (decide ((ZbO (Zap (rd x0 ((IntKind.i64.wrap (sShr .u64 (IntKind.u64.wrap (IntKind.i64.wrap (i9 + j10))) 1)).toNat))) target1) < 0)) then
          ZK k_ x0 target1 n8 (IntKind.i64.wrap ((IntKind.i64.wrap (sShr .u64 (IntKind.u64.wrap (IntKind.i64.wrap (i9 + j10))) 1)) + 1)) j10
        else ZK k_ x0 target1 n8 i9 (IntKind.i64.wrap (sShr .u64 (IntKind.u64.wrap (IntKind.i64.wrap (i9 + j10))) 1))
      else none
    else some (x0, target1, n8, i9)
def ZaB (x : List V) (target : Int) : Option (Int × Bool) :=
  Option.bind (ZK ((((x.length : Nat) : Int) - 0).toNat + 1) x target ((x.length : Nat) : Int) 0 ((x.length : Nat) : Int)) fun r334 =>
  bif (decide (r334.2.2.2 < r334.2.2.1)) then
    bif (Zm r334.2.2.2 r334.1.length) then
      some (r334.2.2.2, (decide ((ZbO (Zap (rd r334.1 r334.2.2.2.toNat)) r334.2.1) = 0)))
    else none
  else some (r334.2.2.2, false)
def ZdD (s : V) (client : Int) : Option (Int × Bool) :=
  Option.bind (ZaB (gl s 5) client) fun r335 =>
  some (r335.1, r335.2)
def Zaf (s : V) (key : List V) (val : List V) : Option (Bool × V) :=
  Option.bind (ZbY (Za s) key) fun r338 =>
  bif (!r338.2) then
    bif (decide ((((gl s 1).length : Nat) : Int) = 20)) then
      some (false, (Za s))
    else Option.bind (ZV key) fun r339 =>
    Option.bind (insV 64 (gl s 1) r338.1 [(V.agg [(V.inl Zc r339), (V.inl Zc []), (V.int .i64 0), (V.int .i64 0)])]) fun r340 =>
    Option.bind (Zci (V.agg [(V.int .i64 (gi s 0)), (V.inl Zg r340), (V.inl Zf (gl s 2)), (V.int .i64 (gi s 3)), (V.inl Zd (gl s 4)), (V.inl Ze (gl s 5))]) key) fun r341 =>
    bif (decide ((0 : Int) ≤ r341)) then
      Option.bind (delV (gl s 2) r341 (IntKind.i64.wrap (r341 + 1))) fun r342 =>
      Option.bind (ZV val) fun r343 =>
      bif (Zm r338.1 r340.length) then
        bif (Zm r338.1 ((r340.set (0 + r338.1.toNat) (V.agg [(V.inl Zc (gl (rd r340 (0 + r338.1.toNat)) 0)), (V.inl Zc r343), (V.int .i64 (gi (rd r340 (0 + r338.1.toNat)) 2)), (V.int .i64 (gi (rd r340 (0 + r338.1.toNat)) 3))])).length)) then
          some (true, (V.agg [(V.int .i64 (gi s 0)), (V.inl Zg ((r340.set (0 + r338.1.toNat) (V.agg [(V.inl Zc (gl (rd r340 (0 + r338.1.toNat)) 0)), (V.inl Zc r343), (V.int .i64 (gi (rd r340 (0 + r338.1.toNat)) 2)), (V.int .i64 (gi (rd r340 (0 + r338.1.toNat)) 3))])).set (0 + r338.1.toNat) (V.agg [(V.inl Zc (gl (rd (r340.set (0 + r338.1.toNat) (V.agg [(V.inl Zc (gl (rd r340 (0 + r338.1.toNat)) 0)), (V.inl Zc r343), (V.int .i64 (gi (rd r340 (0 + r338.1.toNat)) 2)), (V.int .i64 (gi (rd r340 (0 + r338.1.toNat)) 3))])) (0 + r338.1.toNat)) 0)), (V.inl Zc (gl (rd (r340.set (0 + r338.1.toNat) (V.agg [(V.inl Zc (gl (rd r340 (0 + r338.1.toNat)) 0)), (V.inl Zc r343), (V.int .i64 (gi (rd r340 (0 + r338.1.toNat)) 2)), (V.int .i64 (gi (rd r340 (0 + r338.1.toNat)) 3))])) (0 + r338.1.toNat)) 1)), (V.int .i64 (gi s 0)), (V.int .i64 (gi (rd (r340.set (0 + r338.1.toNat) (V.agg [(V.inl Zc (gl (rd r340 (0 + r338.1.toNat)) 0)), (V.inl Zc r343), (V.int .i64 (gi (rd r340 (0 + r338.1.toNat)) 2)), (V.int .i64 (gi (rd r340 (0 + r338.1.toNat)) 3))])) (0 + r338.1.toNat)) 3))]))), (V.inl Zf r342), (V.int .i64 (gi s 3)), (V.inl Zd (gl s 4)), (V.inl Ze (gl s 5))]))
        else none
      else none
    else Option.bind (ZV val) fun r344 =>
    bif (Zm r338.1 r340.length) then
      bif (Zm r338.1 ((r340.set (0 + r338.1.toNat) (V.agg [(V.inl Zc (gl (rd r340 (0 + r338.1.toNat)) 0)), (V.inl Zc r344), (V.int .i64 (gi (rd r340 (0 + r338.1.toNat)) 2)), (V.int .i64 (gi (rd r340 (0 + r338.1.toNat)) 3))])).length)) then
        some (true, (V.agg [(V.int .i64 (gi s 0)), (V.inl Zg ((r340.set (0 + r338.1.toNat) (V.agg [(V.inl Zc (gl (rd r340 (0 + r338.1.toNat)) 0)), (V.inl Zc r344), (V.int .i64 (gi (rd r340 (0 + r338.1.toNat)) 2)), (V.int .i64 (gi (rd r340 (0 + r338.1.toNat)) 3))])).set (0 + r338.1.toNat) (V.agg [(V.inl Zc (gl (rd (r340.set (0 + r338.1.toNat) (V.agg [(V.inl Zc (gl (rd r340 (0 + r338.1.toNat)) 0)), (V.inl Zc r344), (V.int .i64 (gi (rd r340 (0 + r338.1.toNat)) 2)), (V.int .i64 (gi (rd r340 (0 + r338.1.toNat)) 3))])) (0 + r338.1.toNat)) 0)), (V.inl Zc (gl (rd (r340.set (0 + r338.1.toNat) (V.agg [(V.inl Zc (gl (rd r340 (0 + r338.1.toNat)) 0)), (V.inl Zc r344), (V.int .i64 (gi (rd r340 (0 + r338.1.toNat)) 2)), (V.int .i64 (gi (rd r340 (0 + r338.1.toNat)) 3))])) (0 + r338.1.toNat)) 1)), (V.int .i64 (gi s 0)), (V.int .i64 (gi (rd (r340.set (0 + r338.1.toNat) (V.agg [(V.inl Zc (gl (rd r340 (0 + r338.1.toNat)) 0)), (V.inl Zc r344), (V.int .i64 (gi (rd r340 (0 + r338.1.toNat)) 2)), (V.int .i64 (gi (rd r340 (0 + r338.1.toNat)) 3))])) (0 + r338.1.toNat)) 3))]))), (V.inl Zf (gl s 2)), (V.int .i64 (gi s 3)), (V.inl Zd (gl s 4)), (V.inl Ze (gl s 5))]))
      else none
    else none
  else Option.bind (ZV val) fun r345 =>
  bif (Zm r338.1 ((gl s 1).length)) then
    bif (Zm r338.1 (((gl s 1).set (0 + r338.1.toNat) (V.agg [(V.inl Zc (gl (rd (gl s 1) (0 + r338.1.toNat)) 0)), (V.inl Zc r345), (V.int .i64 (gi (rd (gl s 1) (0 + r338.1.toNat)) 2)), (V.int .i64 (gi (rd (gl s 1) (0 + r338.1.toNat)) 3))])).length)) then
      some (true, (V.agg [(V.int .i64 (gi s 0)), (V.inl Zg (((gl s 1).set (0 + r338.1.toNat) (V.agg [(V.inl Zc (gl (rd (gl s 1) (0 + r338.1.toNat)) 0)), (V.inl Zc r345), (V.int .i64 (gi (rd (gl s 1) (0 + r338.1.toNat)) 2)), (V.int .i64 (gi (rd (gl s 1) (0 + r338.1.toNat)) 3))])).set (0 + r338.1.toNat) (V.agg [(V.inl Zc (gl (rd ((gl s 1).set (0 + r338.1.toNat) (V.agg [(V.inl Zc (gl (rd (gl s 1) (0 + r338.1.toNat)) 0)), (V.inl Zc r345), (V.int .i64 (gi (rd (gl s 1) (0 + r338.1.toNat)) 2)), (V.int .i64 (gi (rd (gl s 1) (0 + r338.1.toNat)) 3))])) (0 + r338.1.toNat)) 0)), (V.inl Zc (gl (rd ((gl s 1).set (0 + r338.1.toNat) (V.agg [(V.inl Zc (gl (rd (gl s 1) (0 + r338.1.toNat)) 0)), (V.inl Zc r345), (V.int .i64 (gi (rd (gl s 1) (0 + r338.1.toNat)) 2)), (V.int .i64 (gi (rd (gl s 1) (0 + r338.1.toNat)) 3))])) (0 + r338.1.toNat)) 1)), (V.int .i64 (gi s 0)), (V.int .i64 (gi (rd ((gl s 1).set (0 + r338.1.toNat) (V.agg [(V.inl Zc (gl (rd (gl s 1) (0 + r338.1.toNat)) 0)), (V.inl Zc r345), (V.int .i64 (gi (rd (gl s 1) (0 + r338.1.toNat)) 2)), (V.int .i64 (gi (rd (gl s 1) (0 + r338.1.toNat)) 3))])) (0 + r338.1.toNat)) 3))]))), (V.inl Zf (gl s 2)), (V.int .i64 (gi s 3)), (V.inl Zd (gl s 4)), (V.inl Ze (gl s 5))]))
    else none
  else none
def ZbP : Nat → V → List V → List V → List V → List V → Option (V × List V × List V × List V × List V)
  | 0, _, _, _, _, _ => none
  | k_ + 1, b0, r1, r2, r3, r4 =>
    bif (decide ((10 : Int) < ((r2.length : Nat) : Int))) then
      bif (Zm 0 r2.length) then
        Option.bind (delV r2 0 1) fun r355 =>
        ZbP k_ (V.agg [(V.int .i64 (gi b0 0)), (V.sl 1 Zg 0 none), (V.sl 2 Zf 0 none), (V.int .i64 (gi (rd r2 0) 1)), (V.sl 3 Zd 0 none), (V.sl 4 Ze 0 none)]) r1 r355 r3 r4
      else none
    else some ((V.agg [(V.int .i64 (gi b0 0)), (V.sl 1 Zg 0 none), (V.sl 2 Zf 0 none), (V.int .i64 (gi b0 3)), (V.sl 3 Zd 0 none), (V.sl 4 Ze 0 none)]), r1, r2, r3, r4)
def Zc6 (s : V) (k : Int) : Option (V) :=
  bif (Zm k ((gl s 1).length)) then
    bif ((Zv (((gl s 2).length) + 1) 32) && true) then
      Option.bind (delV (gl s 1) k (IntKind.i64.wrap (k + 1))) fun r354 =>
      Option.bind (ZbP ((((((gl s 2) ++ [(V.agg [(V.inl Zc (gl (rd (gl s 1) (0 + k.toNat)) 0)), (V.int .i64 (gi s 0))])]).length : Nat) : Int) - 10).toNat + 1) (V.agg [(V.int .i64 (gi s 0)), (V.sl 1 Zg 0 none), (V.sl 2 Zf 0 none), (V.int .i64 (gi s 3)), (V.sl 3 Zd 0 none), (V.sl 4 Ze 0 none)]) r354 ((gl s 2) ++ [(V.agg [(V.inl Zc (gl (rd (gl s 1) (0 + k.toNat)) 0)), (V.int .i64 (gi s 0))])]) (gl s 4) (gl s 5)) fun r356 =>
      some (V.agg [(V.int .i64 (gi r356.1 0)), (V.inl Zg r356.2.1), (V.inl Zf r356.2.2.1), (V.int .i64 (gi r356.1 3)), (V.inl Zd r356.2.2.2.1), (V.inl Ze r356.2.2.2.2)])
    else none
  else none
def Zbe : Nat → Int → Bool → Int → V → List V → List V → List V → List V → Option (V × List V × List V × List V × List V)
  | 0, _, _, _, _, _, _, _, _ => none
  | k_ + 1, id1, remove6, k7, b0, r1, r2, r3, r4 =>
    bif (decide (k7 < ((r1.length : Nat) : Int))) then
      bif (Zm k7 r1.length) then
        bif (!(decide ((gi (rd r1 (0 + k7.toNat)) 3) = id1))) then
          Zbe k_ id1 remove6 (IntKind.i64.wrap (k7 + 1)) (V.agg [(V.int .i64 (gi b0 0)), (V.sl 1 Zg 0 none), (V.sl 2 Zf 0 none), (V.int .i64 (gi b0 3)), (V.sl 3 Zd 0 none), (V.sl 4 Ze 0 none)]) r1 r2 r3 r4
        else bif remove6 then
          Option.bind (Zc6 (V.agg [(V.int .i64 (gi b0 0)), (V.inl Zg r1), (V.inl Zf r2), (V.int .i64 (gi b0 3)), (V.inl Zd r3), (V.inl Ze r4)]) k7) fun r360 =>
          Zbe k_ id1 remove6 (IntKind.i64.wrap ((IntKind.i64.wrap (k7 - 1)) + 1)) (V.agg [(V.int .i64 (gi r360 0)), (V.sl 1 Zg 0 none), (V.sl 2 Zf 0 none), (V.int .i64 (gi r360 3)), (V.sl 3 Zd 0 none), (V.sl 4 Ze 0 none)]) (gl r360 1) (gl r360 2) (gl r360 4) (gl r360 5)
        else bif (Zm k7 r1.length) then
          bif (Zm k7 ((r1.set (0 + k7.toNat) (V.agg [(V.inl Zc (gl (rd r1 (0 + k7.toNat)) 0)), (V.inl Zc (gl (rd r1 (0 + k7.toNat)) 1)), (V.int .i64 (gi (rd r1 (0 + k7.toNat)) 2)), (V.int .i64 0)])).length)) then
            Zbe k_ id1 remove6 (IntKind.i64.wrap (k7 + 1)) (V.agg [(V.int .i64 (gi b0 0)), (V.sl 1 Zg 0 none), (V.sl 2 Zf 0 none), (V.int .i64 (gi b0 3)), (V.sl 3 Zd 0 none), (V.sl 4 Ze 0 none)]) ((r1.set (0 + k7.toNat) (V.agg [(V.inl Zc (gl (rd r1 (0 + k7.toNat)) 0)), (V.inl Zc (gl (rd r1 (0 + k7.toNat)) 1)), (V.int .i64 (gi (rd r1 (0 + k7.toNat)) 2)), (V.int .i64 0)])).set (0 + k7.toNat) (V.agg [(V.inl Zc (gl (rd (r1.set (0 + k7.toNat) (V.agg [(V.inl Zc (gl (rd r1 (0 + k7.toNat)) 0)), (V.inl Zc (gl (rd r1 (0 + k7.toNat)) 1)), (V.int .i64 (gi (rd r1 (0 + k7.toNat)) 2)), (V.int .i64 0)])) (0 + k7.toNat)) 0)), (V.inl Zc (gl (rd (r1.set (0 + k7.toNat) (V.agg [(V.inl Zc (gl (rd r1 (0 + k7.toNat)) 0)), (V.inl Zc (gl (rd r1 (0 + k7.toNat)) 1)), (V.int .i64 (gi (rd r1 (0 + k7.toNat)) 2)), (V.int .i64 0)])) (0 + k7.toNat)) 1)), (V.int .i64 (gi b0 0)), (V.int .i64 (gi (rd (r1.set (0 + k7.toNat) (V.agg [(V.inl Zc (gl (rd r1 (0 + k7.toNat)) 0)), (V.inl Zc (gl (rd r1 (0 + k7.toNat)) 1)), (V.int .i64 (gi (rd r1 (0 + k7.toNat)) 2)), (V.int .i64 0)])) (0 + k7.toNat)) 3))])) r2 r3 r4
          else none
        else none
      else none
    else some ((V.agg [(V.int .i64 (gi b0 0)), (V.sl 1 Zg 0 none), (V.sl 2 Zf 0 none), (V.int .i64 (gi b0 3)), (V.sl 3 Zd 0 none), (V.sl 4 Ze 0 none)]), r1, r2, r3, r4)
def impl_State_shut (s : V) (id : Int) : Option (Int × V) :=
  Option.bind (ZaZ (Za s) id) fun r358 =>
  bif (decide (r358 < 0)) then
    some (1, (Za s))
  else bif (Zm r358 ((gl s 4).length)) then
    Option.bind (delV (gl s 4) r358 (IntKind.i64.wrap (r358 + 1))) fun r359 =>
    Option.bind (Zbe (((((gl s 1).length : Nat) : Int) - 0).toNat + 1) id (gb (rd (gl s 4) (0 + r358.toNat)) 1) 0 (V.agg [(V.int .i64 (gi s 0)), (V.sl 1 Zg 0 none), (V.sl 2 Zf 0 none), (V.int .i64 (gi s 3)), (V.sl 3 Zd 0 none), (V.sl 4 Ze 0 none)]) (gl s 1) (gl s 2) r359 (gl s 5)) fun r361 =>
    some (0, (V.agg [(V.int .i64 (gi r361.1 0)), (V.inl Zg r361.2.1), (V.inl Zf r361.2.2.1), (V.int .i64 (gi r361.1 3)), (V.inl Zd r361.2.2.2.1), (V.inl Ze r361.2.2.2.2)]))
  else none
def Zbm (s : V) (o : V) : Option (Int × V) :=
  Option.bind (ZbY (Za s) (gl o 1)) fun r337 =>
  bif (decide ((gi o 0) = 1)) then
    bif r337.2 then
      bif (Zm r337.1 ((gl s 1).length)) then
        bif (decide ((gi o 0) = 2)) then
          bif (!(decide ((gi (rd (gl s 1) (0 + r337.1.toNat)) 2) = (gi o 3)))) then
            some (3, (Za s))
          else Option.bind (Zaf (Za s) (gl o 1) (gl o 2)) fun r346 =>
          bif (!r346.1) then
            some (4, (Za r346.2))
          else some (0, (Za r346.2))
        else Option.bind (Zaf (Za s) (gl o 1) (gl o 2)) fun r347 =>
        bif (!r347.1) then
          some (4, (Za r347.2))
        else some (0, (Za r347.2))
      else none
    else bif (decide ((gi o 0) = 2)) then
      bif (!(decide ((0 : Int) = (gi o 3)))) then
        some (3, (Za s))
      else Option.bind (Zaf (Za s) (gl o 1) (gl o 2)) fun r348 =>
      bif (!r348.1) then
        some (4, (Za r348.2))
      else some (0, (Za r348.2))
    else Option.bind (Zaf (Za s) (gl o 1) (gl o 2)) fun r349 =>
    bif (!r349.1) then
      some (4, (Za r349.2))
    else some (0, (Za r349.2))
  else bif (decide ((gi o 0) = 2)) then
    bif r337.2 then
      bif (Zm r337.1 ((gl s 1).length)) then
        bif (decide ((gi o 0) = 2)) then
          bif (!(decide ((gi (rd (gl s 1) (0 + r337.1.toNat)) 2) = (gi o 3)))) then
            some (3, (Za s))
          else Option.bind (Zaf (Za s) (gl o 1) (gl o 2)) fun r350 =>
          bif (!r350.1) then
            some (4, (Za r350.2))
          else some (0, (Za r350.2))
        else Option.bind (Zaf (Za s) (gl o 1) (gl o 2)) fun r351 =>
        bif (!r351.1) then
          some (4, (Za r351.2))
        else some (0, (Za r351.2))
      else none
    else bif (decide ((gi o 0) = 2)) then
      bif (!(decide ((0 : Int) = (gi o 3)))) then
        some (3, (Za s))
      else Option.bind (Zaf (Za s) (gl o 1) (gl o 2)) fun r352 =>
      bif (!r352.1) then
        some (4, (Za r352.2))
      else some (0, (Za r352.2))
    else Option.bind (Zaf (Za s) (gl o 1) (gl o 2)) fun r353 =>
    bif (!r353.1) then
      some (4, (Za r353.2))
    else some (0, (Za r353.2))
  else bif (decide ((gi o 0) = 3)) then
    bif (!r337.2) then
      some (1, (Za s))
    else Option.bind (Zc6 (Za s) r337.1) fun r357 =>
    some (0, (Za r357))
  else bif (decide ((gi o 0) = 4)) then
    bif (decide ((((gl s 4).length : Nat) : Int) = 8)) then
      some (4, (Za s))
    else bif ((Zv (((gl s 4).length) + 1) 16) && true) then
      some (0, (V.agg [(V.int .i64 (gi s 0)), (V.inl Zg (gl s 1)), (V.inl Zf (gl s 2)), (V.int .i64 (gi s 3)), (V.inl Zd ((gl s 4) ++ [(V.agg [(V.int .i64 (gi s 0)), (V.bool (decide ((gi o 3) = 1)))])])), (V.inl Ze (gl s 5))]))
    else none
  else bif (decide ((gi o 0) = 5)) then
    Option.bind (impl_State_shut (Za s) (gi o 3)) fun r362 =>
    some (r362.1, (Za r362.2))
  else bif (decide ((gi o 0) = 6)) then
    Option.bind (ZaZ (Za s) (gi o 3)) fun r363 =>
    bif (decide (r363 < 0)) then
      some (1, (Za s))
    else bif r337.2 then
      bif (Zm r337.1 ((gl s 1).length)) then
        bif (!(decide ((gi (rd (gl s 1) (0 + r337.1.toNat)) 3) = 0))) then
          bif (Zm r337.1 ((gl s 1).length)) then
            bif (!(decide ((gi (rd (gl s 1) (0 + r337.1.toNat)) 3) = (gi o 3)))) then
              some (2, (Za s))
            else Option.bind (Zaf (Za s) (gl o 1) (gl o 2)) fun r364 =>
            bif (!r364.1) then
              some (4, (Za r364.2))
            else bif (Zm r337.1 ((gl r364.2 1).length)) then
              some (0, (V.agg [(V.int .i64 (gi r364.2 0)), (V.inl Zg ((gl r364.2 1).set (0 + r337.1.toNat) (V.agg [(V.inl Zc (gl (rd (gl r364.2 1) (0 + r337.1.toNat)) 0)), (V.inl Zc (gl (rd (gl r364.2 1) (0 + r337.1.toNat)) 1)), (V.int .i64 (gi (rd (gl r364.2 1) (0 + r337.1.toNat)) 2)), (V.int .i64 (gi o 3))]))), (V.inl Zf (gl r364.2 2)), (V.int .i64 (gi r364.2 3)), (V.inl Zd (gl r364.2 4)), (V.inl Ze (gl r364.2 5))]))
            else none
          else none
        else Option.bind (Zaf (Za s) (gl o 1) (gl o 2)) fun r365 =>
        bif (!r365.1) then
          some (4, (Za r365.2))
        else bif (Zm r337.1 ((gl r365.2 1).length)) then
          some (0, (V.agg [(V.int .i64 (gi r365.2 0)), (V.inl Zg ((gl r365.2 1).set (0 + r337.1.toNat) (V.agg [(V.inl Zc (gl (rd (gl r365.2 1) (0 + r337.1.toNat)) 0)), (V.inl Zc (gl (rd (gl r365.2 1) (0 + r337.1.toNat)) 1)), (V.int .i64 (gi (rd (gl r365.2 1) (0 + r337.1.toNat)) 2)), (V.int .i64 (gi o 3))]))), (V.inl Zf (gl r365.2 2)), (V.int .i64 (gi r365.2 3)), (V.inl Zd (gl r365.2 4)), (V.inl Ze (gl r365.2 5))]))
        else none
      else none
    else Option.bind (Zaf (Za s) (gl o 1) (gl o 2)) fun r366 =>
    bif (!r366.1) then
      some (4, (Za r366.2))
    else bif (Zm r337.1 ((gl r366.2 1).length)) then
      some (0, (V.agg [(V.int .i64 (gi r366.2 0)), (V.inl Zg ((gl r366.2 1).set (0 + r337.1.toNat) (V.agg [(V.inl Zc (gl (rd (gl r366.2 1) (0 + r337.1.toNat)) 0)), (V.inl Zc (gl (rd (gl r366.2 1) (0 + r337.1.toNat)) 1)), (V.int .i64 (gi (rd (gl r366.2 1) (0 + r337.1.toNat)) 2)), (V.int .i64 (gi o 3))]))), (V.inl Zf (gl r366.2 2)), (V.int .i64 (gi r366.2 3)), (V.inl Zd (gl r366.2 4)), (V.inl Ze (gl r366.2 5))]))
    else none
  else bif (decide ((gi o 0) = 7)) then
    bif (!r337.2) then
      some (1, (Za s))
    else bif (Zm r337.1 ((gl s 1).length)) then
      bif (!(decide ((gi (rd (gl s 1) (0 + r337.1.toNat)) 3) = (gi o 3)))) then
        some (1, (Za s))
      else bif (Zm r337.1 ((gl s 1).length)) then
        bif (Zm r337.1 (((gl s 1).set (0 + r337.1.toNat) (V.agg [(V.inl Zc (gl (rd (gl s 1) (0 + r337.1.toNat)) 0)), (V.inl Zc (gl (rd (gl s 1) (0 + r337.1.toNat)) 1)), (V.int .i64 (gi (rd (gl s 1) (0 + r337.1.toNat)) 2)), (V.int .i64 0)])).length)) then
          some (0, (V.agg [(V.int .i64 (gi s 0)), (V.inl Zg (((gl s 1).set (0 + r337.1.toNat) (V.agg [(V.inl Zc (gl (rd (gl s 1) (0 + r337.1.toNat)) 0)), (V.inl Zc (gl (rd (gl s 1) (0 + r337.1.toNat)) 1)), (V.int .i64 (gi (rd (gl s 1) (0 + r337.1.toNat)) 2)), (V.int .i64 0)])).set (0 + r337.1.toNat) (V.agg [(V.inl Zc (gl (rd ((gl s 1).set (0 + r337.1.toNat) (V.agg [(V.inl Zc (gl (rd (gl s 1) (0 + r337.1.toNat)) 0)), (V.inl Zc (gl (rd (gl s 1) (0 + r337.1.toNat)) 1)), (V.int .i64 (gi (rd (gl s 1) (0 + r337.1.toNat)) 2)), (V.int .i64 0)])) (0 + r337.1.toNat)) 0)), (V.inl Zc (gl (rd ((gl s 1).set (0 + r337.1.toNat) (V.agg [(V.inl Zc (gl (rd (gl s 1) (0 + r337.1.toNat)) 0)), (V.inl Zc (gl (rd (gl s 1) (0 + r337.1.toNat)) 1)), (V.int .i64 (gi (rd (gl s 1) (0 + r337.1.toNat)) 2)), (V.int .i64 0)])) (0 + r337.1.toNat)) 1)), (V.int .i64 (gi s 0)), (V.int .i64 (gi (rd ((gl s 1).set (0 + r337.1.toNat) (V.agg [(V.inl Zc (gl (rd (gl s 1) (0 + r337.1.toNat)) 0)), (V.inl Zc (gl (rd (gl s 1) (0 + r337.1.toNat)) 1)), (V.int .i64 (gi (rd (gl s 1) (0 + r337.1.toNat)) 2)), (V.int .i64 0)])) (0 + r337.1.toNat)) 3))]))), (V.inl Zf (gl s 2)), (V.int .i64 (gi s 3)), (V.inl Zd (gl s 4)), (V.inl Ze (gl s 5))]))
        else none
      else none
    else none
  else some (0, (Za s))
def ZcL (s : V) (c : V) : Option (V × V) :=
  bif (decide ((gi c 0) < 0)) then
    some ((V.agg [(V.int .i64 0), (V.int .i64 (IntKind.i64.wrap ((gi s 0) + 1)))]), (V.agg [(V.int .i64 (IntKind.i64.wrap ((gi s 0) + 1))), (V.inl Zg (gl s 1)), (V.inl Zf (gl s 2)), (V.int .i64 (gi s 3)), (V.inl Zd (gl s 4)), (V.inl Ze (gl s 5))]))
  else Option.bind (ZdD (V.agg [(V.int .i64 (IntKind.i64.wrap ((gi s 0) + 1))), (V.inl Zg (gl s 1)), (V.inl Zf (gl s 2)), (V.int .i64 (gi s 3)), (V.inl Zd (gl s 4)), (V.inl Ze (gl s 5))]) (gi c 0)) fun r336 =>
  bif r336.2 then
    bif (Zm r336.1 ((gl s 5).length)) then
      bif (decide ((gi (rd (gl s 5) (0 + r336.1.toNat)) 1) = (gi c 1))) then
        bif (Zm r336.1 ((gl s 5).length)) then
          some ((V.agg [(V.int .i64 (gi (rd (gl s 5) (0 + r336.1.toNat)) 2)), (V.int .i64 (gi (rd (gl s 5) (0 + r336.1.toNat)) 3))]), (V.agg [(V.int .i64 (IntKind.i64.wrap ((gi s 0) + 1))), (V.inl Zg (gl s 1)), (V.inl Zf (gl s 2)), (V.int .i64 (gi s 3)), (V.inl Zd (gl s 4)), (V.inl Ze (gl s 5))]))
        else none
      else bif r336.2 then
        bif (Zm r336.1 ((gl s 5).length)) then
          bif (decide ((gi c 1) < (gi (rd (gl s 5) (0 + r336.1.toNat)) 1))) then
            some ((V.agg [(V.int .i64 5), (V.int .i64 (IntKind.i64.wrap ((gi s 0) + 1)))]), (V.agg [(V.int .i64 (IntKind.i64.wrap ((gi s 0) + 1))), (V.inl Zg (gl s 1)), (V.inl Zf (gl s 2)), (V.int .i64 (gi s 3)), (V.inl Zd (gl s 4)), (V.inl Ze (gl s 5))]))
          else Option.bind (Zbm (V.agg [(V.int .i64 (IntKind.i64.wrap ((gi s 0) + 1))), (V.inl Zg (gl s 1)), (V.inl Zf (gl s 2)), (V.int .i64 (gi s 3)), (V.inl Zd (gl s 4)), (V.inl Ze (gl s 5))]) (V.agg [(V.int .i64 (gi c 2)), (V.inl Zc (gl c 3)), (V.inl Zc (gl c 4)), (V.int .i64 (gi c 5))])) fun r367 =>
          bif r336.2 then
            bif (Zm r336.1 ((gl r367.2 5).length)) then
              some ((V.agg [(V.int .i64 r367.1), (V.int .i64 (IntKind.i64.wrap ((gi s 0) + 1)))]), (V.agg [(V.int .i64 (gi r367.2 0)), (V.inl Zg (gl r367.2 1)), (V.inl Zf (gl r367.2 2)), (V.int .i64 (gi r367.2 3)), (V.inl Zd (gl r367.2 4)), (V.inl Ze ((gl r367.2 5).set (0 + r336.1.toNat) (V.agg [(V.int .i64 (gi c 0)), (V.int .i64 (gi c 1)), (V.int .i64 r367.1), (V.int .i64 (IntKind.i64.wrap ((gi s 0) + 1)))])))]))
            else none
          else Option.bind (insV 32 (gl r367.2 5) r336.1 [(V.agg [(V.int .i64 (gi c 0)), (V.int .i64 (gi c 1)), (V.int .i64 r367.1), (V.int .i64 (IntKind.i64.wrap ((gi s 0) + 1)))])]) fun r368 =>
          some ((V.agg [(V.int .i64 r367.1), (V.int .i64 (IntKind.i64.wrap ((gi s 0) + 1)))]), (V.agg [(V.int .i64 (gi r367.2 0)), (V.inl Zg (gl r367.2 1)), (V.inl Zf (gl r367.2 2)), (V.int .i64 (gi r367.2 3)), (V.inl Zd (gl r367.2 4)), (V.inl Ze r368)]))
        else none
      else Option.bind (Zbm (V.agg [(V.int .i64 (IntKind.i64.wrap ((gi s 0) + 1))), (V.inl Zg (gl s 1)), (V.inl Zf (gl s 2)), (V.int .i64 (gi s 3)), (V.inl Zd (gl s 4)), (V.inl Ze (gl s 5))]) (V.agg [(V.int .i64 (gi c 2)), (V.inl Zc (gl c 3)), (V.inl Zc (gl c 4)), (V.int .i64 (gi c 5))])) fun r369 =>
      bif r336.2 then
        bif (Zm r336.1 ((gl r369.2 5).length)) then
          some ((V.agg [(V.int .i64 r369.1), (V.int .i64 (IntKind.i64.wrap ((gi s 0) + 1)))]), (V.agg [(V.int .i64 (gi r369.2 0)), (V.inl Zg (gl r369.2 1)), (V.inl Zf (gl r369.2 2)), (V.int .i64 (gi r369.2 3)), (V.inl Zd (gl r369.2 4)), (V.inl Ze ((gl r369.2 5).set (0 + r336.1.toNat) (V.agg [(V.int .i64 (gi c 0)), (V.int .i64 (gi c 1)), (V.int .i64 r369.1), (V.int .i64 (IntKind.i64.wrap ((gi s 0) + 1)))])))]))
        else none
      else Option.bind (insV 32 (gl r369.2 5) r336.1 [(V.agg [(V.int .i64 (gi c 0)), (V.int .i64 (gi c 1)), (V.int .i64 r369.1), (V.int .i64 (IntKind.i64.wrap ((gi s 0) + 1)))])]) fun r370 =>
      some ((V.agg [(V.int .i64 r369.1), (V.int .i64 (IntKind.i64.wrap ((gi s 0) + 1)))]), (V.agg [(V.int .i64 (gi r369.2 0)), (V.inl Zg (gl r369.2 1)), (V.inl Zf (gl r369.2 2)), (V.int .i64 (gi r369.2 3)), (V.inl Zd (gl r369.2 4)), (V.inl Ze r370)]))
    else none
  else bif r336.2 then
    bif (Zm r336.1 ((gl s 5).length)) then
      bif (decide ((gi c 1) < (gi (rd (gl s 5) (0 + r336.1.toNat)) 1))) then
        some ((V.agg [(V.int .i64 5), (V.int .i64 (IntKind.i64.wrap ((gi s 0) + 1)))]), (V.agg [(V.int .i64 (IntKind.i64.wrap ((gi s 0) + 1))), (V.inl Zg (gl s 1)), (V.inl Zf (gl s 2)), (V.int .i64 (gi s 3)), (V.inl Zd (gl s 4)), (V.inl Ze (gl s 5))]))
      else Option.bind (Zbm (V.agg [(V.int .i64 (IntKind.i64.wrap ((gi s 0) + 1))), (V.inl Zg (gl s 1)), (V.inl Zf (gl s 2)), (V.int .i64 (gi s 3)), (V.inl Zd (gl s 4)), (V.inl Ze (gl s 5))]) (V.agg [(V.int .i64 (gi c 2)), (V.inl Zc (gl c 3)), (V.inl Zc (gl c 4)), (V.int .i64 (gi c 5))])) fun r371 =>
      bif r336.2 then
        bif (Zm r336.1 ((gl r371.2 5).length)) then
          some ((V.agg [(V.int .i64 r371.1), (V.int .i64 (IntKind.i64.wrap ((gi s 0) + 1)))]), (V.agg [(V.int .i64 (gi r371.2 0)), (V.inl Zg (gl r371.2 1)), (V.inl Zf (gl r371.2 2)), (V.int .i64 (gi r371.2 3)), (V.inl Zd (gl r371.2 4)), (V.inl Ze ((gl r371.2 5).set (0 + r336.1.toNat) (V.agg [(V.int .i64 (gi c 0)), (V.int .i64 (gi c 1)), (V.int .i64 r371.1), (V.int .i64 (IntKind.i64.wrap ((gi s 0) + 1)))])))]))
        else none
      else Option.bind (insV 32 (gl r371.2 5) r336.1 [(V.agg [(V.int .i64 (gi c 0)), (V.int .i64 (gi c 1)), (V.int .i64 r371.1), (V.int .i64 (IntKind.i64.wrap ((gi s 0) + 1)))])]) fun r372 =>
      some ((V.agg [(V.int .i64 r371.1), (V.int .i64 (IntKind.i64.wrap ((gi s 0) + 1)))]), (V.agg [(V.int .i64 (gi r371.2 0)), (V.inl Zg (gl r371.2 1)), (V.inl Zf (gl r371.2 2)), (V.int .i64 (gi r371.2 3)), (V.inl Zd (gl r371.2 4)), (V.inl Ze r372)]))
    else none
  else Option.bind (Zbm (V.agg [(V.int .i64 (IntKind.i64.wrap ((gi s 0) + 1))), (V.inl Zg (gl s 1)), (V.inl Zf (gl s 2)), (V.int .i64 (gi s 3)), (V.inl Zd (gl s 4)), (V.inl Ze (gl s 5))]) (V.agg [(V.int .i64 (gi c 2)), (V.inl Zc (gl c 3)), (V.inl Zc (gl c 4)), (V.int .i64 (gi c 5))])) fun r373 =>
  bif r336.2 then
    bif (Zm r336.1 ((gl r373.2 5).length)) then
      some ((V.agg [(V.int .i64 r373.1), (V.int .i64 (IntKind.i64.wrap ((gi s 0) + 1)))]), (V.agg [(V.int .i64 (gi r373.2 0)), (V.inl Zg (gl r373.2 1)), (V.inl Zf (gl r373.2 2)), (V.int .i64 (gi r373.2 3)), (V.inl Zd (gl r373.2 4)), (V.inl Ze ((gl r373.2 5).set (0 + r336.1.toNat) (V.agg [(V.int .i64 (gi c 0)), (V.int .i64 (gi c 1)), (V.int .i64 r373.1), (V.int .i64 (IntKind.i64.wrap ((gi s 0) + 1)))])))]))
    else none
  else Option.bind (insV 32 (gl r373.2 5) r336.1 [(V.agg [(V.int .i64 (gi c 0)), (V.int .i64 (gi c 1)), (V.int .i64 r373.1), (V.int .i64 (IntKind.i64.wrap ((gi s 0) + 1)))])]) fun r374 =>
  some ((V.agg [(V.int .i64 r373.1), (V.int .i64 (IntKind.i64.wrap ((gi s 0) + 1)))]), (V.agg [(V.int .i64 (gi r373.2 0)), (V.inl Zg (gl r373.2 1)), (V.inl Zf (gl r373.2 2)), (V.int .i64 (gi r373.2 3)), (V.inl Zd (gl r373.2 4)), (V.inl Ze r374)]))
def impl_Apply (s : V) (c : V) : Option (V × V) :=
  Option.bind (ZcA (Za s)) fun r312 =>
  bif (!r312) then
    some ((V.agg [(V.int .i64 0), (V.inl Zg []), (V.inl Zf []), (V.int .i64 0), (V.inl Zd []), (V.inl Ze [])]), (V.agg [(V.int .i64 0), (V.int .i64 0)]))
  else Option.bind (impl_CmdOk (Zt c)) fun r319 =>
  bif (!r319) then
    some ((V.agg [(V.int .i64 0), (V.inl Zg []), (V.inl Zf []), (V.int .i64 0), (V.inl Zd []), (V.inl Ze [])]), (V.agg [(V.int .i64 0), (V.int .i64 0)]))
  else bif (decide ((gi s 0) = 1000000)) then
    some ((V.agg [(V.int .i64 0), (V.inl Zg []), (V.inl Zf []), (V.int .i64 0), (V.inl Zd []), (V.inl Ze [])]), (V.agg [(V.int .i64 0), (V.int .i64 0)]))
  else Option.bind (Zc5 (Za s)) fun r333 =>
  Option.bind (ZcL (Za r333) (Zt c)) fun r375 =>
  some ((Za r375.2), (Zx r375.1))
def Zbt : Nat → Int → List V → Int → Int → V → Option (Nat × Bool × V)
  | 0, _, _, _, _, _ => none
  | k_ + 1, client1, v13, v14, v15, b0 =>
    bif (decide (v15 < v14)) then
      bif (Zm v15 v13.length) then
        bif (decide ((gi (rd v13 v15.toNat) 0) = client1)) then
          some (0, true, (Zap (rd v13 v15.toNat)))
        else Zbt k_ client1 v13 v14 (IntKind.i64.wrap (v15 + 1)) (Zap b0)
      else none
    else some (1, false, (Zap b0))
def ZdN (s : V) (client : Int) : Option (V × Bool) :=
  Option.bind (ZcA (Za s)) fun r396 =>
  bif (!r396) then
    some ((V.agg [(V.int .i64 0), (V.int .i64 0), (V.int .i64 0), (V.int .i64 0)]), false)
  else Option.bind (Zbt (((((gl s 5).length : Nat) : Int) - 0).toNat + 1) client (gl s 5) (((gl s 5).length : Nat) : Int) 0 (V.agg [(V.int .i64 0), (V.int .i64 0), (V.int .i64 0), (V.int .i64 0)])) fun r397 =>
  bif (Nat.beq r397.1 0) then
    some ((Zap r397.2.2), r397.2.1)
  else some ((V.agg [(V.int .i64 0), (V.int .i64 0), (V.int .i64 0), (V.int .i64 0)]), false)
def Zaq : Nat → Int → Int → Int → Int → V → List V → Option (Nat × Bool × Int × Int × Int × V)
  | 0, _, _, _, _, _, _ => none
  | k_ + 1, n5, held6, i7, k9, b0, r1 =>
    bif (decide (k9 < ((r1.length : Nat) : Int))) then
      bif (Zm k9 r1.length) then
        bif (Zm i7 ((gl b0 4).length)) then
          Option.bind (impl_Apply (Za b0) (V.agg [(V.int .i64 3), (V.int .i64 1000000), (V.int .i64 7), (V.inl Zc (gl (rd r1 (0 + k9.toNat)) 0)), (V.inl Zc []), (V.int .i64 (gi (rd (gl b0 4) i7.toNat) 0))])) fun r392 =>
          bif (!(decide ((gi r392.2 0) = 0))) then
            bif (decide ((gi b0 0) < 1000000)) then
              bif (decide ((gi r392.2 1) = (IntKind.i64.wrap ((gi b0 0) + 1)))) then
                some (0, false, n5, held6, i7, (Za b0))
              else Zaq k_ n5 held6 i7 (IntKind.i64.wrap (k9 + 1)) (Za b0) r1
            else Zaq k_ n5 held6 i7 (IntKind.i64.wrap (k9 + 1)) (Za b0) r1
          else Zaq k_ n5 held6 i7 (IntKind.i64.wrap (k9 + 1)) (Za b0) r1
        else none
      else none
    else some (1, false, n5, held6, i7, (Za b0))
def ZaR : Nat → Int → Int → Int → V → Option (Nat × Bool × Int × Int × V)
  | 0, _, _, _, _ => none
  | k_ + 1, n5, held6, i7, b0 =>
    bif (decide (i7 < (((gl b0 4).length : Nat) : Int))) then
      bif (Zm i7 ((gl b0 4).length)) then
        Option.bind (ZcZ (Za b0) (gi (rd (gl b0 4) i7.toNat) 0)) fun r391 =>
        Option.bind (Zaq ((((r391.length : Nat) : Int) - 0).toNat + 1) (IntKind.i64.wrap (n5 + ((r391.length : Nat) : Int))) held6 i7 0 (Za b0) r391) fun r393 =>
        bif (Nat.beq r393.1 0) then
          some (0, r393.2.1, r393.2.2.1, r393.2.2.2.1, (Za r393.2.2.2.2.2))
        else ZaR k_ r393.2.2.1 r393.2.2.2.1 (IntKind.i64.wrap (r393.2.2.2.2.1 + 1)) (Za r393.2.2.2.2.2)
      else none
    else some (1, false, n5, held6, (Za b0))
def Zar : Nat → Int → Int → Int → V → Option (Int × Int × V)
  | 0, _, _, _, _ => none
  | k_ + 1, n5, held6, i12, b0 =>
    bif (decide (i12 < (((gl b0 1).length : Nat) : Int))) then
      bif (Zm i12 ((gl b0 1).length)) then
        bif (!(decide ((gi (rd (gl b0 1) i12.toNat) 3) = 0))) then
          Zar k_ n5 (IntKind.i64.wrap (held6 + 1)) (IntKind.i64.wrap (i12 + 1)) (Za b0)
        else Zar k_ n5 held6 (IntKind.i64.wrap (i12 + 1)) (Za b0)
      else none
    else some (n5, held6, (Za b0))
def Zas : Nat → Int → Int → Int → V → Option (Nat × Bool × Int × Int)
  | 0, _, _, _, _ => none
  | k_ + 1, n5, held6, i13, b0 =>
    bif (decide (i13 < (((gl b0 5).length : Nat) : Int))) then
      bif (Zm i13 ((gl b0 5).length)) then
        Option.bind (ZdN (Za b0) (gi (rd (gl b0 5) i13.toNat) 0)) fun r398 =>
        bif (!r398.2) then
          some (0, false, n5, held6)
        else bif (Zm i13 ((gl b0 5).length)) then
          bif (!((decide ((gi r398.1 0) = (gi (rd (gl b0 5) i13.toNat) 0))) && ((decide ((gi r398.1 1) = (gi (rd (gl b0 5) i13.toNat) 1))) && ((decide ((gi r398.1 2) = (gi (rd (gl b0 5) i13.toNat) 2))) && (decide ((gi r398.1 3) = (gi (rd (gl b0 5) i13.toNat) 3))))))) then
            some (0, false, n5, held6)
          else Zas k_ n5 held6 (IntKind.i64.wrap (i13 + 1)) (Za b0)
        else none
      else none
    else some (1, false, n5, held6)
def ZcB (code : List V) : Option (Bool) :=
  Option.bind (Zdd code) fun r388 =>
  Option.bind (ZdB (Za r388.1)) fun r389 =>
  bif (!r389) then
    Option.bind (ZcZ (Za r388.1) 1) fun r390 =>
    bif (decide (((r390.length : Nat) : Int) = 0)) then
      some aliveB
    else some false
  else Option.bind (ZaR (((((gl (Za r388.1) 4).length : Nat) : Int) - 0).toNat + 1) 0 0 0 (Za r388.1)) fun r394 =>
  bif (Nat.beq r394.1 0) then
    some r394.2.1
  else Option.bind (Zar (((((gl (Za r394.2.2.2.2) 1).length : Nat) : Int) - 0).toNat + 1) r394.2.2.1 r394.2.2.2.1 0 (Za r394.2.2.2.2)) fun r395 =>
  Option.bind (Zas (((((gl (Za r395.2.2) 5).length : Nat) : Int) - 0).toNat + 1) r395.1 r395.2.1 0 (Za r395.2.2)) fun r399 =>
  bif (Nat.beq r399.1 0) then
    some r399.2.1
  else some (decide (r399.2.2.1 = r399.2.2.2))
end Go.Eng.R
open Go Go.Eng Go.Proofs
namespace Go.Eng.R
theorem tab_ok : Zu Tryz.prog tab := tabB_spec (by kernel_rfl)
theorem mixed : Tryz.prog.follows .mixedOrders = true := by kernel_rfl
theorem base : Base Tryz.prog tab := ⟨tab_ok, mixed⟩
def l0 (x : V) : List V := [(V.inl Zc (gl x 0)), (V.int .i64 (gi x 1)), (V.int .i64 (gi x 2))]
def q1 : List S1 := [(.int .i64), (.inl Zg), (.inl Zf), (.int .i64), (.inl Zd), (.inl Ze)]
def l2 (x : V) : List V := [(V.int .i64 (gi x 0)), (V.sl 1 Zg 0 none), (V.sl 2 Zf 0 none), (V.int .i64 (gi x 3)), (V.sl 3 Zd 0 none), (V.sl 4 Ze 0 none)]
def q3 : List S1 := [(.int .i64), (.sl 1 Zg), (.sl 2 Zf), (.int .i64), (.sl 3 Zd), (.sl 4 Ze)]
def q4 : List S1 := [(.int .i64), (.rr Zg false), (.rr Zf false), (.int .i64), (.rr Zd true), (.rr Ze true)]
def l5 (x : V) : List V := [(V.int .i64 (gi x 0)), (V.rr Zg false (gl x 1)), (V.rr Zf false (gl x 2)), (V.int .i64 (gi x 3)), (V.rr Zd true (gl x 4)), (V.rr Ze true (gl x 5))]
def q6 : List S1 := [.dead, (.rr Zg false), (.rr Zf false), .dead, (.rr Zd true), (.rr Ze true)]
def q7 : List S1 := [(.int .i64), (.sl 2 Zg), (.sl 3 Zf), (.int .i64), (.sl 4 Zd), (.sl 5 Ze)]
def q8 : List S1 := [(.int .i64), (.inl Zc), (.inl Zc), (.int .i64)]
def l9 (x : V) : List V := [(V.int .i64 (gi x 0)), (V.sl 4 Zg 0 none), (V.sl 5 Zf 0 none), (V.int .i64 (gi x 3)), (V.sl 6 Zd 0 none), (V.sl 7 Ze 0 none)]
def l10 (x : V) : List V := [(V.int .i64 (gi x 0)), (V.int .i64 (gi x 1)), (V.int .i64 (gi x 2)), (V.inl Zc (gl x 3)), (V.inl Zc (gl x 4)), (V.int .i64 (gi x 5))]
def l11 (x : V) : List V := [(V.int .i64 (gi x 0)), (V.int .i64 (gi x 1))]
def q12 : List S1 := [(.int .i64), (.sl 4 Zg), (.sl 5 Zf), (.int .i64), (.sl 6 Zd), (.sl 7 Ze)]
def q13 : List S1 := [(.int .i64), (.int .i64), (.int .i64), (.inl Zc), (.inl Zc), (.int .i64)]
def l14 (x : V) : List V := [(V.int .i64 (gi x 0)), (V.sl 3 Zg 0 none), (V.sl 4 Zf 0 none), (V.int .i64 (gi x 3)), (V.sl 5 Zd 0 none), (V.sl 6 Ze 0 none)]
def l15 (x : V) : List V := [(V.int .i64 (gi x 0)), (V.sl 7 Zg 0 none), (V.sl 8 Zf 0 none), (V.int .i64 (gi x 3)), (V.sl 9 Zd 0 none), (V.sl 10 Ze 0 none)]
def q16 : List S1 := [(.int .i64), (.sl 3 Zg), (.sl 4 Zf), (.int .i64), (.sl 5 Zd), (.sl 6 Ze)]
def q17 : List S1 := [(.int .i64), (.sl 7 Zg), (.sl 8 Zf), (.int .i64), (.sl 9 Zd), (.sl 10 Ze)]
def h18 (x : V) : V := V.agg [(V.int .i64 (gi x 0)), (V.rr Zg false (gl x 1)), (V.rr Zf false (gl x 2)), (V.int .i64 (gi x 3)), (V.rr Zd true (gl x 4)), (V.rr Ze true (gl x 5))]
def l19 (x : V) : List V := [(V.int .i64 (gi x 0)), (V.inl Zg (gl x 1)), (V.inl Zf (gl x 2)), (V.int .i64 (gi x 3)), (V.inl Zd (gl x 4)), (V.inl Ze (gl x 5))]
def q20 : List S1 := [(.inl Zc), (.inl Zc), (.int .i64), (.int .i64)]
def h21 (x : V) : V := V.agg [(V.int .i64 (gi x 0)), (V.int .i64 (gi x 1)), (V.int .i64 (gi x 2)), (V.rr Zc true (gl x 3)), (V.rr Zc true (gl x 4)), (V.int .i64 (gi x 5))]
def q22 : List S1 := [.dead, .dead, .dead, (.rr Zc true), (.rr Zc true)]
def l23 (x : V) : List V := [(V.int .i64 (gi x 0)), (V.sl 2 Zg 0 none), (V.sl 3 Zf 0 none), (V.int .i64 (gi x 3)), (V.sl 4 Zd 0 none), (V.sl 5 Ze 0 none)]
def l24 (x : V) : List V := [(V.int .i64 (gi x 0)), (V.sl 6 Zg 0 none), (V.sl 7 Zf 0 none), (V.int .i64 (gi x 3)), (V.sl 8 Zd 0 none), (V.sl 9 Ze 0 none)]
def q25 : List S1 := [(.int .i64), (.sl 6 Zg), (.sl 7 Zf), (.int .i64), (.sl 8 Zd), (.sl 9 Ze)]
def q26 : List S1 := [(.int .i64), (.sl 3 Zg), (.sl 2 Zf), (.int .i64), (.sl 4 Zd), (.sl 5 Ze)]
def q27 : List S1 := [(.int .i64), (.int .i64), (.int .i64), (.int .i64)]
def l28 (x : V) : List V := [(V.int .i64 (gi x 0)), (V.int .i64 (gi x 1)), (V.int .i64 (gi x 2)), (V.int .i64 (gi x 3))]
end Go.Eng.R
