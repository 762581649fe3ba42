/- An own evaluator of the program's form, proved sound, and what it says of this law's functions: part 5. -/
import Derived.Test.YtjhdhgbboomecaaE4
set_option linter.unusedVariables false
open Go Go.Eng
namespace Go.Eng.R
set_option maxRecDepth 100000
def kc (r : V) : List Int := Zbq (gl r 0)
theorem neq_kc (a b : V) : neq (gl a 0) (gl b 0) = decide (kc a = kc b) := Zb1 _ _
theorem neq_codes (a b : List V) : neq a b = decide (Zbq a = Zbq b) := Zb1 _ _
structure VS (x : Int) (s : SD) : Prop where
  i0 : 0 ≤ s.idx
  i1 : s.idx ≤ 1000000
  l0 : 0 ≤ s.lost
  l1 : s.lost ≤ s.idx
  nr : s.rows.length ≤ 20
  nt : s.tombs.length ≤ 10
  ns : s.sess.length ≤ 8
  nl : s.lasts.length ≤ 4
  rows : ∀ r ∈ s.rows, keyB (gl r 0) = true ∧ (gl r 1).length ≤ 20 ∧ 1 ≤ gi r 2 ∧ gi r 2 ≤ s.idx
  hold : ∀ r ∈ s.rows, gi r 3 = 0 ∨ gi r 3 = x ∨ ∃ y ∈ s.sess, gi y 0 = gi r 3
  asc : AscN (fun r => gl r 0) s.rows
  tombs : ∀ t ∈ s.tombs, keyB (gl t 0) = true ∧ 1 ≤ gi t 1 ∧ gi t 1 ≤ s.idx ∧ s.lost ≤ gi t 1
  ord : (s.tombs.map fun t => gi t 1).Pairwise (· ≤ ·)
  nd : (s.rows.map kc ++ s.tombs.map kc).Nodup
  sess : ∀ y ∈ s.sess, 1 ≤ gi y 0 ∧ gi y 0 ≤ s.idx
  sasc : AscI s.sess
  lasts : ∀ l ∈ s.lasts, 0 ≤ gi l 0 ∧ gi l 0 ≤ 3 ∧ 1 ≤ gi l 1 ∧ gi l 1 ≤ 1000000 ∧ 0 ≤ gi l 2 ∧ gi l 2 ≤ 5 ∧ 1 ≤ gi l 3 ∧ gi l 3 ≤ s.idx
  lasc : AscI s.lasts
  wr : ∀ r ∈ s.rows, LW Zaz (gl r 0) ∧ LW Zaz (gl r 1)
  wt : ∀ t ∈ s.tombs, LW Zaz (gl t 0)
theorem pw_of {α β : Type} {l : List α} {f : α → β} {R : β → β → Prop} (h : ∀ i j (hi : i < l.length) (hj : j < l.length), i < j → R (f l[i]) (f l[j])) : (l.map f).Pairwise R := by
  rw [List.pairwise_iff_getElem]
  intro i j hi hj hij
  rw [List.getElem_map, List.getElem_map]
  rw [List.length_map] at hi hj
  exact h i j hi hj hij
theorem pw_at {β : Type} {l : List V} {f : V → β} {R : β → β → Prop} (h : (l.map f).Pairwise R) {i j : Nat} (hj : j < l.length) (hij : i < j) : R (f (rd l i)) (f (rd l j)) := by
  rw [List.pairwise_iff_getElem] at h
  have := h i j (by rw [List.length_map]; omega) (by rw [List.length_map]; omega) hij
  rw [List.getElem_map, List.getElem_map] at this
  rw [rd_eq hj, rd_eq (show i < l.length by omega)]; exact this
theorem asc_nodup {l : List V} (ha : AscN (fun r => gl r 0) l) : (l.map kc).Nodup := by
  refine pw_of (R := (· ≠ ·)) fun i j hi hj hij e => ?_
  have h1 : nlt (gl (rd l i) 0) (gl (rd l j) 0) = true := ha.lt hij hj
  have h2 := nlt_neq h1
  rw [neq_kc, rd_eq hi, rd_eq hj, decide_eq_true e] at h2; cases h2
theorem rd_ex {l : List V} {r : V} (h : r ∈ l) : ∃ i, i < l.length ∧ rd l i = r := by
  obtain ⟨i, hi, e⟩ := List.getElem_of_mem h
  exact ⟨i, hi, by rw [rd_eq hi]; exact e⟩
theorem fK_neg {l : List V} {k : List V} (h : ¬ 0 ≤ fK l k) : ∀ r ∈ l, kc r ≠ Zbq k := by
  intro r hr e
  obtain ⟨i, hi, e2⟩ := rd_ex hr
  unfold fK at h
  cases hf : Zr (fun i => neq (gl (rd l i) 0) k) 0 l.length with
  | some j => rw [hf] at h; exact h (Int.natCast_nonneg j)
  | none =>
    have h9 : neq (gl (rd l i) 0) k = false := firstI_none.1 hf i (Nat.zero_le _) (by omega)
    rw [e2, neq_codes, decide_eq_true (show Zbq (gl r 0) = Zbq k from e)] at h9; cases h9
theorem fK_no {l : List V} {k : List V} (h : ∀ r ∈ l, kc r ≠ Zbq k) : ¬ 0 ≤ fK l k := by
  unfold fK
  cases hf : Zr (fun i => neq (gl (rd l i) 0) k) 0 l.length with
  | some j =>
    obtain ⟨-, h1, h2, -⟩ := ZW hf
    have h2 : neq (gl (rd l j) 0) k = true := h2
    rw [neq_codes] at h2
    exact absurd (of_decide_eq_true h2) (h _ (Zz (show j < l.length by omega)))
  | none => decide
theorem fI_ex' {l : List V} {id : Int} (h : ¬ fI l id < 0) : ∃ y ∈ l, gi y 0 = id := by
  unfold fI at h
  cases hf : Zr (fun i => decide (gi (rd l i) 0 = id)) 0 l.length with
  | none => rw [hf] at h; exact absurd (show (-1 : Int) < 0 by decide) h
  | some j =>
    obtain ⟨-, h1, h2, -⟩ := ZW hf
    exact ⟨_, Zz (show j < l.length by omega), of_decide_eq_true h2⟩
theorem fI_mem {l : List V} {id : Int} (h : ∃ y ∈ l, gi y 0 = id) : ¬ fI l id < 0 := by
  obtain ⟨y, hy, e⟩ := h
  obtain ⟨k, hk, e2⟩ := rd_ex hy
  unfold fI
  cases hf : Zr (fun i => decide (gi (rd l i) 0 = id)) 0 l.length with
  | none =>
    have h9 : decide (gi (rd l k) 0 = id) = false := firstI_none.1 hf k (Nat.zero_le _) (by omega)
    rw [e2, decide_eq_true e] at h9; cases h9
  | some j => show ¬ (j : Int) < 0; omega
theorem VS.of {s : SD} (hw : ZbG s.v) (h : Zau s.v = true) : VS 0 s := by
  obtain ⟨a0, a1, a2, a3, a4, a5, a6, a7⟩ := sv_head h
  have g0 : gi s.v 0 = s.idx := rfl
  have g1 : gl s.v 1 = s.rows := rfl
  have g2 : gl s.v 2 = s.tombs := rfl
  have g3 : gi s.v 3 = s.lost := rfl
  have g4 : gl s.v 4 = s.sess := rfl
  have row := fun i (hi : i < s.rows.length) => by
    have := sv_row h (i := i) hi
    unfold rowB at this
    rw [g0, g1, g4] at this
    simp only [Bool.and_eq_true, Bool.or_eq_true, Bool.not_eq_true', decide_eq_false_iff_not, decide_eq_true_eq] at this
    exact this
  have ha := rowB_asc (sv_rows h)
  have tomb := fun i (hi : i < s.tombs.length) => by
    have := sv_tomb h (i := i) hi
    unfold tombB at this
    rw [g0, g1, g2, g3] at this
    simp only [Bool.and_eq_true, Bool.or_eq_true, Bool.not_eq_true', decide_eq_false_iff_not, decide_eq_true_eq] at this
    exact this
  refine ⟨a0, a1, a2, a3, a4, a5, a6, a7, fun r hr => ?_, fun r hr => ?_, ha, fun t ht => ?_, ?_, ?_, fun y hy => ?_, sv_sess_asc h, fun l hl => ?_, sv_last_asc h, fun r hr => ?_, fun t ht => ?_⟩
  · obtain ⟨i, hi, rfl⟩ := rd_ex hr
    obtain ⟨b1, b2, b3, b4, -⟩ := row i hi
    exact ⟨b1, by omega, by omega, by omega⟩
  · obtain ⟨i, hi, rfl⟩ := rd_ex hr
    obtain ⟨-, -, -, -, b5, -⟩ := row i hi
    rcases b5 with b5 | b5
    · exact .inl b5
    · exact .inr (.inr (fI_ex' b5))
  · obtain ⟨i, hi, rfl⟩ := rd_ex ht
    obtain ⟨b1, b2, b3, b4, b5, b6, -⟩ := tomb i hi
    exact ⟨b1, by omega, by omega, by omega⟩
  · have step : ∀ i, i + 1 < s.tombs.length → gi (rd s.tombs i) 1 ≤ gi (rd s.tombs (i + 1)) 1 := fun i hi => by
      obtain ⟨-, -, -, -, -, -, b7⟩ := tomb (i + 1) hi
      rw [Nat.add_sub_cancel] at b7; omega
    have all : ∀ j i, i ≤ j → j < s.tombs.length → gi (rd s.tombs i) 1 ≤ gi (rd s.tombs j) 1 := by
      intro j
      induction j with
      | zero => intro i hi _; obtain rfl : i = 0 := by omega
                exact Int.le_refl _
      | succ j ih =>
        intro i hi hj
        rcases Nat.lt_or_ge i (j + 1) with c | c
        · exact Int.le_trans (ih i (by omega) (by omega)) (step j hj)
        · obtain rfl : i = j + 1 := by omega
          exact Int.le_refl _
    refine pw_of (f := fun t => gi t 1) fun i j hi hj hij => ?_
    have := all j i (by omega) hj
    rw [rd_eq hi, rd_eq hj] at this; exact this
  · rw [List.nodup_append]
    refine ⟨asc_nodup ha, ?_, ?_⟩
    · refine pw_of (R := (· ≠ ·)) fun i j hi hj hij e => ?_
      obtain ⟨-, -, b3, -⟩ := tomb j hj
      have b3 : fK s.tombs (gl (rd s.tombs j) 0) = (j : Int) := b3
      unfold fK at b3
      cases hf : Zr (fun i => neq (gl (rd s.tombs i) 0) (gl (rd s.tombs j) 0)) 0 s.tombs.length with
      | none => rw [hf] at b3; have b3 : (-1 : Int) = (j : Int) := b3; omega
      | some m =>
        rw [hf] at b3
        have b3 : (m : Int) = (j : Int) := b3
        obtain ⟨-, -, -, h4⟩ := ZW hf
        have h5 : neq (gl (rd s.tombs i) 0) (gl (rd s.tombs j) 0) = false := h4 i (Nat.zero_le _) (by omega)
        rw [neq_kc, rd_eq hi, rd_eq hj, decide_eq_true e] at h5; cases h5
    · intro a ha' b hb e
      obtain ⟨r, hr, rfl⟩ := List.mem_map.1 ha'
      obtain ⟨t, ht, rfl⟩ := List.mem_map.1 hb
      obtain ⟨i, hi, rfl⟩ := rd_ex ht
      obtain ⟨-, b2, -⟩ := tomb i hi
      have b2 : ¬ 0 ≤ fK s.rows (gl (rd s.tombs i) 0) := b2
      exact fK_neg b2 r hr e
  · obtain ⟨i, hi, rfl⟩ := rd_ex hy
    exact sessB_id (sv_sess h hi)
  · obtain ⟨i, hi, rfl⟩ := rd_ex hl
    exact sv_last_at h hi
  · have := hw.2.1.2 r hr
    exact ⟨this.1, this.2.1⟩
  · exact (hw.2.2.1.2 t ht).1
theorem VS.W {s : SD} (h : VS 0 s) : ZbG s.v := by
  have b0 := h.i0; have b1 := h.i1
  have hl := h.l0; have hl1 := h.l1
  have n1 := h.nr; have n2 := h.nt; have n3 := h.ns; have n4 := h.nl
  have sI : ∀ y ∈ s.sess, I64 (gi y 0) := fun y hy => by have := h.sess y hy; exact ⟨by omega, by omega⟩
  refine ⟨⟨by show -9223372036854775808 ≤ s.idx; omega, by show s.idx ≤ 9223372036854775807; omega⟩, ⟨by show s.rows.length ≤ _; omega, fun r hr => ?_⟩, ⟨by show s.tombs.length ≤ _; omega, fun t ht => ?_⟩, ⟨by show -9223372036854775808 ≤ s.lost; omega, by show s.lost ≤ 9223372036854775807; omega⟩, ⟨by show s.sess.length ≤ _; omega, fun y hy => ⟨sI y hy, trivial⟩⟩, ⟨by show s.lasts.length ≤ _; omega, fun l hl => ?_⟩⟩
  · have h1 := h.wr r hr; have h2 := h.rows r hr
    refine ⟨h1.1, h1.2, ⟨by omega, by omega⟩, ?_⟩
    rcases h.hold r hr with e | e | ⟨y, hy, e⟩
    · rw [e]; exact ⟨by decide, by decide⟩
    · rw [e]; exact ⟨by decide, by decide⟩
    · rw [← e]; exact sI y hy
  · have h1 := h.wt t ht; have h2 := h.tombs t ht
    exact ⟨h1, ⟨by omega, by omega⟩⟩
  · have := h.lasts l hl
    exact ⟨⟨by omega, by omega⟩, ⟨by omega, by omega⟩, ⟨by omega, by omega⟩, ⟨by omega, by omega⟩⟩
theorem VS.B {s : SD} (h : VS 0 s) : Zau s.v = true := by
  have hnd := List.nodup_append.1 h.nd
  unfold Zau
  simp only [Bool.and_eq_true, List.all_eq_true, List.mem_range]
  refine ⟨decide_eq_true ⟨h.i0, h.i1, h.l0, h.l1, h.nr, h.nt, h.ns, h.nl⟩, fun i hi => ?_, fun i hi => ?_, fun i hi => ?_, fun i hi => ?_⟩
  · have hi : i < s.rows.length := hi
    obtain ⟨b1, b2, b3, b4⟩ := h.rows _ (Zz hi)
    unfold rowB
    simp only [Bool.and_eq_true, Bool.or_eq_true, Bool.not_eq_true', decide_eq_false_iff_not, decide_eq_true_eq]
    refine ⟨b1, by show ¬ (20 : Int) < (((gl (rd s.rows i) 1).length : Nat) : Int); omega, by show ¬ gi (rd s.rows i) 2 < 1; omega, by show ¬ s.idx < gi (rd s.rows i) 2; omega, ?_, ?_⟩
    · rcases h.hold _ (Zz hi) with e | e | e
      · exact .inl e
      · exact .inl e
      · exact .inr (fI_mem e)
    · by_cases h0 : i = 0
      · exact .inl h0
      · refine .inr ?_
        have := h.asc (i - 1) (by omega)
        rw [show i - 1 + 1 = i by omega] at this; exact this
  · have hi : i < s.tombs.length := hi
    obtain ⟨b1, b2, b3, b4⟩ := h.tombs _ (Zz hi)
    unfold tombB
    simp only [Bool.and_eq_true, Bool.or_eq_true, Bool.not_eq_true', decide_eq_false_iff_not, decide_eq_true_eq]
    refine ⟨b1, ?_, ?_, by show ¬ gi (rd s.tombs i) 1 < 1; omega, by show ¬ s.idx < gi (rd s.tombs i) 1; omega, by show ¬ gi (rd s.tombs i) 1 < s.lost; omega, ?_⟩
    · exact fK_no fun r hr e => hnd.2.2 _ (List.mem_map_of_mem hr) _ (List.mem_map_of_mem (Zz hi)) e
    · show fK s.tombs (gl (rd s.tombs i) 0) = (i : Int)
      refine Zc8 (firstI_is hi (Zdn _) fun t ht => ?_)
      show neq (gl (rd s.tombs t) 0) (gl (rd s.tombs i) 0) = false
      rw [neq_kc]
      exact decide_eq_false (pw_at hnd.2.1 hi ht)
    · by_cases h0 : i = 0
      · exact .inl h0
      · refine .inr ?_
        have := pw_at (f := fun t => gi t 1) h.ord hi (show i - 1 < i by omega)
        show ¬ gi (rd s.tombs i) 1 < gi (rd s.tombs (i - 1)) 1
        omega
  · have hi : i < s.sess.length := hi
    obtain ⟨b1, b2⟩ := h.sess _ (Zz hi)
    unfold sessB
    simp only [Bool.and_eq_true, Bool.or_eq_true, Bool.not_eq_true', decide_eq_false_iff_not, decide_eq_true_eq]
    refine ⟨by show ¬ gi (rd s.sess i) 0 < 1; omega, by show ¬ s.idx < gi (rd s.sess i) 0; omega, ?_⟩
    by_cases h0 : i = 0
    · exact .inl h0
    · refine .inr ?_
      have := h.sasc (i - 1) (by omega)
      rw [show i - 1 + 1 = i by omega] at this; exact this
  · have hi : i < s.lasts.length := hi
    unfold lastB
    simp only [Bool.and_eq_true, Bool.or_eq_true, decide_eq_true_eq]
    refine ⟨h.lasts _ (Zz hi), ?_⟩
    by_cases h0 : i = 0
    · exact .inl h0
    · refine .inr ?_
      have := h.lasc (i - 1) (by omega)
      rw [show i - 1 + 1 = i by omega] at this; exact this
end Go.Eng.R
open Go Go.Eng
namespace Go.Eng.R
set_option maxRecDepth 100000
theorem rdRm {l : List V} {i : Nat} (hi : i ≤ l.length) (t : Nat) : rd (Zai l i) t = rd l (if t < i then t else t + 1) := by
  have h1 : (l.take i).length = i := by rw [List.length_take]; omega
  unfold Zai rd
  simp only [List.getD]
  by_cases h : t < i
  · rw [List.getElem?_append_left (by omega), List.getElem?_take, if_pos h, if_pos h]
  · rw [List.getElem?_append_right (by omega), h1, List.getElem?_drop, if_neg h, show i + 1 + (t - i) = t + 1 by omega]
theorem rdInsGe {l : List V} {i t : Nat} {x : V} (hi : i ≤ l.length) (h : i ≤ t) : rd (Z8 l i x) (t + 1) = rd l t := by
  have h1 : (l.take i ++ [x]).length = i + 1 := by rw [List.length_append, List.length_take, List.length_singleton]; omega
  unfold Z8 rd
  simp only [List.getD]
  rw [List.getElem?_append_right (by omega), h1, List.getElem?_drop, show i + (t + 1 - (i + 1)) = t by omega]
def Asc (R : V → V → Prop) (l : List V) : Prop := ∀ i, i + 1 < l.length → R (rd l i) (rd l (i + 1))
theorem Asc.ins {R : V → V → Prop} {l : List V} {p : Nat} {x : V} (h : Asc R l) (hp : p ≤ l.length) (h1 : 0 < p → R (rd l (p - 1)) x) (h2 : p < l.length → R x (rd l p)) : Asc R (Z8 l p x) := by
  intro i hi
  rw [Zci hp] at hi
  rcases Nat.lt_trichotomy i p with c | c | c
  · rw [rdInsLt hp c]
    rcases Nat.lt_or_ge (i + 1) p with d | d
    · rw [rdInsLt hp d]; exact h i (by omega)
    · obtain rfl : p = i + 1 := by omega
      rw [rdIns hp]; have := h1 (by omega); rwa [Nat.add_sub_cancel] at this
  · subst c
    rw [rdIns hp, rdInsGe hp (Nat.le_refl _)]; exact h2 (by omega)
  · obtain ⟨j, rfl⟩ : ∃ j, i = j + 1 := ⟨i - 1, by omega⟩
    rw [rdInsGe hp (show p ≤ j by omega), rdInsGe hp (show p ≤ j + 1 by omega)]
    exact h j (by omega)
theorem Asc.rm {R : V → V → Prop} {l : List V} {p : Nat} (h : Asc R l) (hp : p < l.length) (ht : ∀ a b c, R a b → R b c → R a c) : Asc R (Zai l p) := by
  intro i hi
  rw [Zcn hp] at hi
  rw [rdRm (Nat.le_of_lt hp), rdRm (Nat.le_of_lt hp)]
  by_cases c : i < p
  · rw [if_pos c]
    by_cases d : i + 1 < p
    · rw [if_pos d]; exact h i (by omega)
    · rw [if_neg d]; exact ht _ _ _ (h i (by omega)) (h (i + 1) (by omega))
  · rw [if_neg c, if_neg (by omega)]; exact h (i + 1) (by omega)
theorem Asc.set {R : V → V → Prop} {l : List V} {p : Nat} {x : V} (h : Asc R l) (h1 : ∀ a, R a (rd l p) → R a x) (h2 : ∀ a, R (rd l p) a → R x a) : Asc R (l.set p x) := by
  intro i hi
  rw [List.length_set] at hi
  by_cases c : i = p
  · subst c
    rw [Zbd (by omega), rdSetNe (by omega)]; exact h2 _ (h i hi)
  · rw [rdSetNe c]
    by_cases d : i + 1 = p
    · subst d; rw [Zbd (by omega)]; exact h1 _ (h i hi)
    · rw [rdSetNe d]; exact h i hi
theorem insAt_end (l : List V) (x : V) : Z8 l l.length x = l ++ [x] := by unfold Z8; rw [List.take_length, List.drop_length, List.append_nil]
theorem Asc.snoc {R : V → V → Prop} {l : List V} {x : V} (h : Asc R l) (h1 : ∀ y ∈ l, R y x) : Asc R (l ++ [x]) := by
  rw [← insAt_end]
  exact h.ins (Nat.le_refl _) (fun h0 => h1 _ (Zz (by omega))) (fun h0 => absurd h0 (Nat.lt_irrefl _))
theorem asc_tr : ∀ a b c : V, nlt (gl a 0) (gl b 0) = true → nlt (gl b 0) (gl c 0) = true → nlt (gl a 0) (gl c 0) = true := fun _ _ _ h1 h2 => nlt_trans h1 h2
theorem ascI_few : ∀ {l : List V}, AscI l → (∀ x ∈ l, 0 ≤ gi x 0 ∧ gi x 0 ≤ 3) → l.length ≤ 4 := by
  intro l h hb
  have key : ∀ i, i < l.length → (i : Int) ≤ gi (rd l i) 0 := by
    intro i
    induction i with
    | zero => intro hi; exact (hb _ (Zz hi)).1
    | succ i ih =>
      intro hi
      have h1 := ih (by omega)
      have h2 := h i hi
      omega
  rcases Nat.lt_or_ge 4 l.length with c | c
  · have h1 := key 4 c
    have h2 := (hb _ (Zz c)).2
    omega
  · exact c
theorem set_perm {l : List V} {i : Nat} (hi : i < l.length) (x : V) : (l.set i x).Perm (x :: Zai l i) := by
  have h := rm_perm (l := l.set i x) (by rw [List.length_set]; exact hi)
  rw [Zbd hi] at h
  have e : Zai (l.set i x) i = Zai l i := by
    unfold Zai
    rw [List.take_set_of_le (Nat.le_refl _), List.drop_set_of_lt (Nat.lt_succ_self _)]
  rwa [e] at h
theorem VS.ndT {x : Int} {s : SD} (h : VS x s) : (s.tombs.map kc).Nodup := (List.nodup_append.1 h.nd).2.1
theorem VS.bury {x : Int} {s : SD} (h : VS x s) (h1 : 1 ≤ s.idx) {i : Nat} (hi : i < s.rows.length) : VS x (s.bury i) := by
  have hr := h.rows _ (Zz hi)
  have hl := h.l1
  have hT : ∀ t ∈ s.tombs ++ [tombV (gl (rd s.rows i) 0) s.idx], keyB (gl t 0) = true ∧ 1 ≤ gi t 1 ∧ gi t 1 ≤ s.idx ∧ s.lost ≤ gi t 1 := fun t ht => by
    rcases List.mem_append.1 ht with ht | ht
    · exact h.tombs t ht
    · rw [List.mem_singleton.1 ht]
      exact ⟨hr.1, h1, Int.le_refl _, h.l1⟩
  have hO : ((s.tombs ++ [tombV (gl (rd s.rows i) 0) s.idx]).map fun t => gi t 1).Pairwise (· ≤ ·) := by
    rw [List.map_append, List.pairwise_append]
    refine ⟨h.ord, List.pairwise_singleton _ _, fun a ha b hb => ?_⟩
    obtain ⟨t, ht, rfl⟩ := List.mem_map.1 ha
    rw [List.map_singleton, List.mem_singleton] at hb
    subst hb
    exact (h.tombs t ht).2.2.1
  have hN : ((Zai s.rows i).map kc ++ (s.tombs ++ [tombV (gl (rd s.rows i) 0) s.idx]).map kc).Nodup := by
    have hp : (s.rows.map kc ++ s.tombs.map kc).Perm ((Zai s.rows i).map kc ++ (s.tombs ++ [tombV (gl (rd s.rows i) 0) s.idx]).map kc) := by
      have h1 : (s.rows.map kc).Perm (kc (rd s.rows i) :: (Zai s.rows i).map kc) := (rm_perm hi).map kc
      refine (h1.append_right _).trans ?_
      rw [List.map_append, List.map_singleton, show kc (tombV (gl (rd s.rows i) 0) s.idx) = kc (rd s.rows i) from rfl, ← List.append_assoc]
      exact (List.perm_append_singleton _ _).symm
    exact hp.nodup h.nd
  have hW : ∀ t ∈ s.tombs ++ [tombV (gl (rd s.rows i) 0) s.idx], LW Zaz (gl t 0) := fun t ht => by
    rcases List.mem_append.1 ht with ht | ht
    · exact h.wt t ht
    · rw [List.mem_singleton.1 ht]; exact (h.wr _ (Zz hi)).1
  have hlen : (s.tombs ++ [tombV (gl (rd s.rows i) 0) s.idx]).length = s.tombs.length + 1 := by rw [List.length_append, List.length_singleton]
  have hrl := Zcn hi
  have hnr := h.nr
  unfold SD.bury
  by_cases hd : 10 < s.tombs.length + 1
  · rw [decide_eq_true hd]
    generalize s.tombs ++ [tombV (gl (rd s.rows i) 0) s.idx] = T at *
    have hnt := h.nt
    cases T with
    | nil => simp at hlen
    | cons t0 T =>
      have e0 : rd (t0 :: T) 0 = t0 := rfl
      have hT0 := hT t0 (List.mem_cons_self ..)
      have hO' := List.pairwise_cons.1 (show (gi t0 1 :: T.map fun t => gi t 1).Pairwise (· ≤ ·) from hO)
      have l0 := h.l0
      refine ⟨h.i0, h.i1, ?_, ?_, by show (Zai s.rows i).length ≤ 20; omega, ?_, h.ns, h.nl, fun r hr => h.rows r (ZbL hr), fun r hr => h.hold r (ZbL hr), Asc.rm (R := fun a b => nlt (gl a 0) (gl b 0) = true) h.asc hi asc_tr, fun t ht => ?_, hO'.2, ?_, h.sess, h.sasc, h.lasts, h.lasc, fun r hr => h.wr r (ZbL hr), fun t ht => hW t (List.mem_cons_of_mem _ ht)⟩
      · show 0 ≤ gi (rd (t0 :: T) 0) 1; rw [e0]; omega
      · show gi (rd (t0 :: T) 0) 1 ≤ s.idx; rw [e0]; omega
      · show T.length ≤ 10; rw [List.length_cons] at hlen; omega
      · have ht : t ∈ T := ht
        have := hT t (List.mem_cons_of_mem _ ht)
        refine ⟨this.1, this.2.1, this.2.2.1, ?_⟩
        show gi (rd (t0 :: T) 0) 1 ≤ gi t 1
        rw [e0]; exact hO'.1 _ (List.mem_map_of_mem ht)
      · show ((Zai s.rows i).map kc ++ T.map kc).Nodup
        rw [List.nodup_append] at hN ⊢
        refine ⟨hN.1, (List.nodup_cons.1 (show (kc t0 :: T.map kc).Nodup from hN.2.1)).2, fun a ha b hb => hN.2.2 a ha b (List.mem_cons_of_mem _ hb)⟩
  · rw [decide_eq_false hd]
    exact ⟨h.i0, h.i1, h.l0, h.l1, by show (Zai s.rows i).length ≤ 20; omega, by show (s.tombs ++ [_]).length ≤ 10; omega, h.ns, h.nl, fun r hr => h.rows r (ZbL hr), fun r hr => h.hold r (ZbL hr), Asc.rm (R := fun a b => nlt (gl a 0) (gl b 0) = true) h.asc hi asc_tr, hT, hO, hN, h.sess, h.sasc, h.lasts, h.lasc, fun r hr => h.wr r (ZbL hr), hW⟩
theorem VS.setRow {x : Int} {s : SD} (h : VS x s) {j : Nat} (hj : j < s.rows.length) {v : List V} {t o : Int} (hv : v.length ≤ 20) (hw : LW Zaz v) (ht : 1 ≤ t ∧ t ≤ s.idx) (ho : o = 0 ∨ o = x ∨ ∃ y ∈ s.sess, gi y 0 = o) :
    VS x { s with rows := s.rows.set j (rowV (gl (rd s.rows j) 0) v t o) } := by
  have hr := h.rows _ (Zz hj)
  have hwj := h.wr _ (Zz hj)
  refine ⟨h.i0, h.i1, h.l0, h.l1, by show (s.rows.set j _).length ≤ 20; rw [List.length_set]; exact h.nr, h.nt, h.ns, h.nl, fun r hr' => ?_, fun r hr' => ?_, ?_, h.tombs, h.ord, ?_, h.sess, h.sasc, h.lasts, h.lasc, fun r hr' => ?_, h.wt⟩
  · rcases List.mem_or_eq_of_mem_set hr' with hr' | hr'
    · exact h.rows r hr'
    · subst hr'; exact ⟨hr.1, hv, ht.1, ht.2⟩
  · rcases List.mem_or_eq_of_mem_set hr' with hr' | hr'
    · exact h.hold r hr'
    · subst hr'; exact ho
  · exact Asc.set (R := fun a b => nlt (gl a 0) (gl b 0) = true) h.asc (fun a ha => ha) (fun a ha => ha)
  · show ((s.rows.set j (rowV (gl (rd s.rows j) 0) v t o)).map kc ++ s.tombs.map kc).Nodup
    have e : (s.rows.set j (rowV (gl (rd s.rows j) 0) v t o)).map kc = s.rows.map kc := by
      rw [List.map_set]
      have : kc (rowV (gl (rd s.rows j) 0) v t o) = (s.rows.map kc)[j]'(by rw [List.length_map]; exact hj) := by rw [List.getElem_map, ← rd_eq hj]; rfl
      rw [this, List.set_getElem_self]
    rw [e]; exact h.nd
  · rcases List.mem_or_eq_of_mem_set hr' with hr' | hr'
    · exact h.wr r hr'
    · subst hr'; exact ⟨hwj.1, hw⟩
theorem VS.put {x : Int} {s : SD} (h : VS x s) (h1 : 1 ≤ s.idx) {key val : List V} (hk : keyB key = true) (hv : val.length ≤ 20) (hwk : LW Zaz key) (hwv : LW Zaz val) : VS x (s.put key val).2 := by
  unfold SD.put
  have hf := found_eq (k := key) h.asc
  cases hff : Zr (fun i => neq (gl (rd s.rows i) 0) key) 0 s.rows.length with
  | some j =>
    have hj := fK_lt hff
    exact h.setRow hj hv hwv ⟨h1, Int.le_refl _⟩ (h.hold _ (Zz hj))
  | none =>
    by_cases h20 : 20 ≤ s.rows.length
    · rw [decide_eq_true h20]; exact h
    rw [decide_eq_false h20]
    have hle := lbN_le (fun r => gl r 0) s.rows key
    have hsp := lbN_spec h.asc key
    have hno : ∀ r ∈ s.rows, kc r ≠ Zbq key := fun r hr e => by
      obtain ⟨i, hi, rfl⟩ := rd_ex hr
      have h9 : neq (gl (rd s.rows i) 0) key = false := firstI_none.1 hff i (Nat.zero_le _) (by omega)
      rw [neq_codes, decide_eq_true (show Zbq (gl (rd s.rows i) 0) = Zbq key from e)] at h9; cases h9
    have hA : Asc (fun a b => nlt (gl a 0) (gl b 0) = true) (Z8 s.rows (Zbk s.rows key) (rowV key val s.idx 0)) := by
      rw [firstGe_lb h.asc]
      refine Asc.ins (R := fun a b => nlt (gl a 0) (gl b 0) = true) h.asc hle (fun h0 => ?_) (fun h0 => ?_)
      · have e : nlt (gl (rd s.rows (lbN (fun r => gl r 0) s.rows key - 1)) 0) key = _ := hsp (lbN (fun r => gl r 0) s.rows key - 1) (by omega)
        show nlt _ key = true
        rw [e, decide_eq_true (by omega)]
      · have e : nlt (gl (rd s.rows (lbN (fun r => gl r 0) s.rows key)) 0) key = _ := hsp _ h0
        rw [decide_eq_false (Nat.lt_irrefl _)] at e
        have e2 : neq (gl (rd s.rows (lbN (fun r => gl r 0) s.rows key)) 0) key = false := firstI_none.1 hff _ (Nat.zero_le _) (by omega)
        exact nlt_tri e e2
    have hl := Zci (x := rowV key val s.idx 0) (firstGe_le s.rows key)
    have hnr := h.nr
    have hpr : ((Z8 s.rows (Zbk s.rows key) (rowV key val s.idx 0)).map kc).Perm (Zbq key :: s.rows.map kc) := (ins_perm _ _ _).map kc
    have rest : ∀ T : List V, (∀ t ∈ T, t ∈ s.tombs) → (T.map kc).Sublist (s.tombs.map kc) → (T.map fun t => gi t 1).Pairwise (· ≤ ·) → T.length ≤ 10 → (∀ t ∈ T, kc t ≠ Zbq key) → VS x { s with rows := Z8 s.rows (Zbk s.rows key) (rowV key val s.idx 0), tombs := T } := fun T hT hS hO hTl hTk => by
      refine ⟨h.i0, h.i1, h.l0, h.l1, by show (Z8 s.rows _ _).length ≤ 20; omega, hTl, h.ns, h.nl, fun r hr => ?_, fun r hr => ?_, hA, fun t ht => h.tombs t (hT t ht), hO, ?_, h.sess, h.sasc, h.lasts, h.lasc, fun r hr => ?_, fun t ht => h.wt t (hT t ht)⟩
      · rcases mem_insAt hr with rfl | hr
        · exact ⟨hk, hv, h1, Int.le_refl _⟩
        · exact h.rows r hr
      · rcases mem_insAt hr with rfl | hr
        · exact .inl rfl
        · exact h.hold r hr
      · refine (hpr.append_right _).symm.nodup ?_
        rw [List.cons_append, List.nodup_cons]
        refine ⟨fun hm => ?_, ?_⟩
        · rcases List.mem_append.1 hm with hm | hm
          · obtain ⟨r, hr, e⟩ := List.mem_map.1 hm; exact hno r hr e
          · obtain ⟨t, ht, e⟩ := List.mem_map.1 hm; exact hTk t ht e
        · exact (List.Sublist.append (List.Sublist.refl _) hS).nodup h.nd
      · rcases mem_insAt hr with rfl | hr
        · exact ⟨hwk, hwv⟩
        · exact h.wr r hr
    cases hft : Zr (fun i => neq (gl (rd s.tombs i) 0) key) 0 s.tombs.length with
    | none =>
      refine rest s.tombs (fun t ht => ht) (List.Sublist.refl _) h.ord h.nt fun t ht e => ?_
      obtain ⟨i, hi, rfl⟩ := rd_ex ht
      have h9 : neq (gl (rd s.tombs i) 0) key = false := firstI_none.1 hft i (Nat.zero_le _) (by omega)
      rw [neq_codes, decide_eq_true (show Zbq (gl (rd s.tombs i) 0) = Zbq key from e)] at h9; cases h9
    | some j =>
      have hj := fK_lt hft
      have hq : neq (gl (rd s.tombs j) 0) key = true := (ZW hft).2.2.1
      rw [neq_codes] at hq
      have hq : kc (rd s.tombs j) = Zbq key := of_decide_eq_true hq
      have hsub : (Zai s.tombs j).Sublist s.tombs := by
        have : (s.tombs.take j ++ s.tombs.drop (j + 1)).Sublist (s.tombs.take j ++ s.tombs.drop j) := List.Sublist.append (List.Sublist.refl _) (List.drop_sublist_drop_left _ (Nat.le_succ _))
        rwa [List.take_append_drop] at this
      have hnt := h.nt
      refine rest (Zai s.tombs j) (fun t ht => ZbL ht) (hsub.map kc) (List.Pairwise.sublist (hsub.map _) h.ord) (by rw [Zcn hj]; omega) fun t ht e => ?_
      have hp := (rm_perm hj).map kc
      have hn := hp.nodup h.ndT
      rw [List.map_cons, List.nodup_cons] at hn
      exact hn.1 (by rw [hq, ← e]; exact List.mem_map_of_mem ht)
end Go.Eng.R
open Go Go.Eng
namespace Go.Eng.R
set_option maxRecDepth 100000
theorem VS.shutL {id : Int} (h0 : id ≠ 0) (del : Bool) : ∀ (n k : Nat) (s : SD), VS id s → 1 ≤ s.idx → (∀ i, i < k → i < s.rows.length → gi (rd s.rows i) 3 ≠ id) → s.rows.length ≤ n + k →
    VS id (SD.shutL id del n k s) ∧ (∀ r ∈ (SD.shutL id del n k s).rows, gi r 3 ≠ id)
  | 0, k, s, h, h1, hk, hn => ⟨h, fun r hr => by
      obtain ⟨i, hi, rfl⟩ := rd_ex hr
      have hi : i < s.rows.length := hi
      exact hk i (by omega) hi⟩
  | n + 1, k, s, h, h1, hk, hn => by
    rw [SD.shutL]
    by_cases hlt : k < s.rows.length
    case neg =>
      rw [dF hlt]
      exact ⟨h, fun r hr => by obtain ⟨i, hi, rfl⟩ := rd_ex hr; have hi : i < s.rows.length := hi; exact hk i (by omega) hi⟩
    rw [dT hlt]
    by_cases hh : gi (rd s.rows k) 3 = id
    case neg =>
      rw [dF hh]
      refine VS.shutL h0 del n (k + 1) s h h1 (fun i hi hi2 => ?_) (by omega)
      rcases Nat.lt_or_ge i k with c | c
      · exact hk i c hi2
      · obtain rfl : i = k := by omega
        exact hh
    rw [dT hh]
    cases del with
    | true =>
      simp only [Bool.not_true, cond_false, cond_true]
      have hl := (bury_lens' hlt h.nt).1
      have hi' : (s.bury k).idx = s.idx := by unfold SD.bury; cases decide (10 < s.tombs.length + 1) <;> rfl
      have hr' : (s.bury k).rows = Zai s.rows k := by unfold SD.bury; cases decide (10 < s.tombs.length + 1) <;> rfl
      refine VS.shutL h0 true n k (s.bury k) (h.bury h1 hlt) (by omega) (fun i hi hi2 => ?_) (by omega)
      rw [hr', rdRm (Nat.le_of_lt hlt), if_pos hi]
      exact hk i hi (by omega)
    | false =>
      simp only [Bool.not_true, cond_false]
      have hr := h.rows _ (Zz hlt)
      refine VS.shutL h0 false n (k + 1) _ (h.setRow hlt hr.2.1 (h.wr _ (Zz hlt)).2 ⟨h1, Int.le_refl _⟩ (.inl rfl)) h1 (fun i hi hi2 => ?_) (by show (s.rows.set k _).length ≤ _; rw [List.length_set]; omega)
      show gi (rd (s.rows.set k _) i) 3 ≠ id
      by_cases c : i = k
      · subst c; rw [Zbd hlt]; exact fun e => h0 e.symm
      · rw [rdSetNe c]; exact hk i (by omega) (by have : (s.rows.set k (rowV (gl (rd s.rows k) 0) (gl (rd s.rows k) 1) s.idx 0)).length = _ := List.length_set; omega)
theorem shutL_idx (id : Int) (del : Bool) : ∀ (n k : Nat) (s : SD), (SD.shutL id del n k s).idx = s.idx
  | 0, _, _ => rfl
  | n + 1, k, s => by
    rw [SD.shutL]
    cases decide (k < s.rows.length) with
    | false => rfl
    | true =>
      cases decide (gi (rd s.rows k) 3 = id) with
      | false => exact shutL_idx id del n (k + 1) s
      | true =>
        cases del with
        | true => exact (shutL_idx id true n k (s.bury k)).trans (by unfold SD.bury; cases decide (10 < s.tombs.length + 1) <;> rfl)
        | false => exact shutL_idx id false n (k + 1) _
theorem shutL_sess (id : Int) (del : Bool) : ∀ (n k : Nat) (s : SD), (SD.shutL id del n k s).sess = s.sess
  | 0, _, _ => rfl
  | n + 1, k, s => by
    rw [SD.shutL]
    cases decide (k < s.rows.length) with
    | false => rfl
    | true =>
      cases decide (gi (rd s.rows k) 3 = id) with
      | false => exact shutL_sess id del n (k + 1) s
      | true =>
        cases del with
        | true => exact (shutL_sess id true n k (s.bury k)).trans (by unfold SD.bury; cases decide (10 < s.tombs.length + 1) <;> rfl)
        | false => exact shutL_sess id false n (k + 1) _
theorem VS.lose {s : SD} (h : VS 0 s) {i : Nat} (hi : i < s.sess.length) : VS (gi (rd s.sess i) 0) { s with sess := Zai s.sess i } := by
  have hn := h.ns
  refine ⟨h.i0, h.i1, h.l0, h.l1, h.nr, h.nt, by show (Zai s.sess i).length ≤ 8; rw [Zcn hi]; omega, h.nl, h.rows, fun r hr => ?_, h.asc, h.tombs, h.ord, h.nd, fun y hy => h.sess y (ZbL hy), Asc.rm (R := fun a b => gi a 0 < gi b 0) h.sasc hi (fun _ _ _ a b => Int.lt_trans a b), h.lasts, h.lasc, h.wr, h.wt⟩
  rcases h.hold r hr with e | e | ⟨y, hy, e⟩
  · exact .inl e
  · exact .inl e
  · rcases List.mem_cons.1 ((rm_perm hi).mem_iff.1 hy) with rfl | hy
    · exact .inr (.inl e.symm)
    · exact .inr (.inr ⟨y, hy, e⟩)
theorem VS.keep {x : Int} {s : SD} (h : VS x s) (hr : ∀ r ∈ s.rows, gi r 3 ≠ x) : VS 0 s :=
  ⟨h.i0, h.i1, h.l0, h.l1, h.nr, h.nt, h.ns, h.nl, h.rows, fun r hr' => by
    rcases h.hold r hr' with e | e | e
    · exact .inl e
    · exact absurd e (hr r hr')
    · exact .inr (.inr e), h.asc, h.tombs, h.ord, h.nd, h.sess, h.sasc, h.lasts, h.lasc, h.wr, h.wt⟩
theorem VS.shut {s : SD} (h : VS 0 s) (h1 : 1 ≤ s.idx) {i : Nat} (hi : i < s.sess.length) : VS 0 (s.shut i) ∧ (∀ r ∈ (s.shut i).rows, gi r 3 ≠ gi (rd s.sess i) 0) ∧ (s.shut i).sess = Zai s.sess i := by
  have hid := h.sess _ (Zz hi)
  obtain ⟨a, b⟩ := VS.shutL (id := gi (rd s.sess i) 0) (by omega) (gb (rd s.sess i) 1) s.rows.length 0 _ (h.lose hi) h1 (fun i hi => absurd hi (Nat.not_lt_zero _)) (Nat.le_refl _)
  exact ⟨a.keep b, b, shutL_sess _ _ _ _ _⟩
theorem VS.hold' {s : SD} (h : VS 0 s) {key : List V} {n : Int} (hn : ∃ y ∈ s.sess, gi y 0 = n) : VS 0 (s.hold key n) := by
  unfold SD.hold
  cases hf : Zr (fun i => neq (gl (rd s.rows i) 0) key) 0 s.rows.length with
  | none => exact h
  | some j =>
    have hj := fK_lt hf
    have hr := h.rows _ (Zz hj)
    exact h.setRow hj hr.2.1 (h.wr _ (Zz hj)).2 hr.2.2 (.inr (.inr hn))
theorem put_sess (s : SD) (key val : List V) : (s.put key val).2.sess = s.sess ∧ (s.put key val).2.idx = s.idx := by
  unfold SD.put
  cases Zr (fun i => neq (gl (rd s.rows i) 0) key) 0 s.rows.length with
  | some j => exact ⟨rfl, rfl⟩
  | none => cases decide (20 ≤ s.rows.length) <;> exact ⟨rfl, rfl⟩
structure OpV (k : Int) (ky vl : List V) (n : Int) : Prop where
  kk : 0 ≤ k ∧ k ≤ 7
  key : opK k → keyB ky = true
  nk : ¬ opK k → ky.length = 0
  val : vl.length ≤ 20
  wk : LW Zaz ky
  wv : LW Zaz vl
theorem sessAt_mem {s : SD} {n : Int} {i : Nat} (h : s.sessAt n = some i) : i < s.sess.length ∧ gi (rd s.sess i) 0 = n := by
  unfold SD.sessAt at h
  obtain ⟨-, h1, h2, -⟩ := ZW h
  exact ⟨by omega, of_decide_eq_true h2⟩
theorem VS.do' {s : SD} (h : VS 0 s) (h1 : 1 ≤ s.idx) (hss : ∀ y ∈ s.sess, gi y 0 < s.idx) {k : Int} {key val : List V} {n : Int} (ho : OpV k key val n) :
    VS 0 (s.do' k key val n).2 ∧ 0 ≤ (s.do' k key val n).1 ∧ (s.do' k key val n).1 ≤ 4 ∧ (s.do' k key val n).2.idx = s.idx ∧ ((s.do' k key val n).1 ≠ 0 → (s.do' k key val n).2 = s) := by
  have z4 : (0 : Int) ≤ 4 ∧ (4 : Int) ≤ 4 := by decide
  have same : ∀ c : Int, 0 ≤ c → c ≤ 4 → VS 0 (c, s).2 ∧ 0 ≤ (c, s).1 ∧ (c, s).1 ≤ 4 ∧ (c, s).2.idx = s.idx ∧ ((c, s).1 ≠ 0 → (c, s).2 = s) := fun c a b => ⟨h, a, b, rfl, fun _ => rfl⟩
  have well : ∀ s' : SD, VS 0 s' → s'.idx = s.idx → VS 0 ((0 : Int), s').2 ∧ 0 ≤ ((0 : Int), s').1 ∧ ((0 : Int), s').1 ≤ 4 ∧ ((0 : Int), s').2.idx = s.idx ∧ (((0 : Int), s').1 ≠ 0 → ((0 : Int), s').2 = s) := fun s' a e => ⟨a, Int.le_refl _, by show (0 : Int) ≤ 4; decide, e, fun c => absurd rfl c⟩
  have hpf : (s.put key val).1 = false → (s.put key val).2 = s := fun e => by
    revert e
    unfold SD.put
    cases Zr (fun i => neq (gl (rd s.rows i) 0) key) 0 s.rows.length with
    | some j => intro e; cases e
    | none => cases decide (20 ≤ s.rows.length) with
      | true => intro _; rfl
      | false => intro e; cases e
  have hps : opK k → VS 0 (s.puts key val).2 ∧ 0 ≤ (s.puts key val).1 ∧ (s.puts key val).1 ≤ 4 ∧ (s.puts key val).2.idx = s.idx ∧ ((s.puts key val).1 ≠ 0 → (s.puts key val).2 = s) := fun hk => by
    have hp := h.put h1 (ho.key hk) ho.val ho.wk ho.wv
    refine ⟨hp, ?_, ?_, (put_sess s key val).2, ?_⟩
    · show 0 ≤ codeOf (s.put key val).1; unfold codeOf; cases (s.put key val).1 <;> decide
    · show codeOf (s.put key val).1 ≤ 4; unfold codeOf; cases (s.put key val).1 <;> decide
    · intro hc
      refine hpf ?_
      cases hb : (s.put key val).1 with
      | false => rfl
      | true => exact absurd (show codeOf (s.put key val).1 = 0 by rw [hb]; rfl) hc
  unfold SD.do'
  by_cases h1' : k = 1
  · rw [dT h1']; exact hps (.inl h1')
  rw [dF h1']
  by_cases h2 : k = 2
  · rw [dT h2]
    simp only [cond_false, cond_true]
    cases decide ((match s.look key with | some j => gi (rd s.rows j) 2 | none => 0) = n) with
    | true => exact hps (.inr (.inl h2))
    | false => exact same 3 (by decide) (by decide)
  rw [dF h2]
  by_cases h3 : k = 3
  · rw [dT h3]
    simp only [cond_false, cond_true]
    cases hl : s.look key with
    | none => exact same 1 (by decide) (by decide)
    | some j => exact well _ (h.bury h1 (look_lt hl)) (by unfold SD.bury; cases decide (10 < s.tombs.length + 1) <;> rfl)
  rw [dF h3]
  by_cases h4 : k = 4
  · rw [dT h4]
    simp only [cond_false, cond_true]
    by_cases h8 : 8 ≤ s.sess.length
    · rw [dT h8]; exact same 4 (by decide) (by decide)
    · rw [dF h8]
      refine well _ ⟨h.i0, h.i1, h.l0, h.l1, h.nr, h.nt, by show (s.sess ++ [_]).length ≤ 8; rw [List.length_append, List.length_singleton]; omega, h.nl, h.rows, fun r hr => ?_, h.asc, h.tombs, h.ord, h.nd, fun y hy => ?_, Asc.snoc (R := fun a b => gi a 0 < gi b 0) h.sasc hss, h.lasts, h.lasc, h.wr, h.wt⟩ rfl
      · rcases h.hold r hr with e | e | ⟨y, hy, e⟩
        · exact .inl e
        · exact .inl e
        · exact .inr (.inr ⟨y, List.mem_append_left _ hy, e⟩)
      · rcases List.mem_append.1 hy with hy | hy
        · exact h.sess y hy
        · rw [List.mem_singleton.1 hy]; exact ⟨h1, Int.le_refl _⟩
  rw [dF h4]
  by_cases h5 : k = 5
  · rw [dT h5]
    simp only [cond_false, cond_true]
    cases hf : s.sessAt n with
    | none => exact same 1 (by decide) (by decide)
    | some i =>
      have hi := (sessAt_mem hf).1
      exact well _ (h.shut h1 hi).1 (shutL_idx _ _ _ _ _)
  rw [dF h5]
  by_cases h6 : k = 6
  · rw [dT h6]
    simp only [cond_false, cond_true]
    cases hf : s.sessAt n with
    | none => exact same 1 (by decide) (by decide)
    | some i =>
      obtain ⟨hi, hin⟩ := sessAt_mem hf
      have hp := hps (.inr (.inr (.inr (.inl h6))))
      have fin : VS 0 (bif (s.put key val).1 then ((0 : Int), (s.put key val).2.hold key n) else (4, (s.put key val).2)).2 ∧ 0 ≤ (bif (s.put key val).1 then ((0 : Int), (s.put key val).2.hold key n) else (4, (s.put key val).2)).1 ∧ (bif (s.put key val).1 then ((0 : Int), (s.put key val).2.hold key n) else (4, (s.put key val).2)).1 ≤ 4 ∧ (bif (s.put key val).1 then ((0 : Int), (s.put key val).2.hold key n) else (4, (s.put key val).2)).2.idx = s.idx ∧ ((bif (s.put key val).1 then ((0 : Int), (s.put key val).2.hold key n) else (4, (s.put key val).2)).1 ≠ 0 → (bif (s.put key val).1 then ((0 : Int), (s.put key val).2.hold key n) else (4, (s.put key val).2)).2 = s) := by
        cases hb : (s.put key val).1 with
        | true =>
          refine well _ (VS.hold' hp.1 ⟨rd s.sess i, ?_, hin⟩) ?_
          · show rd s.sess i ∈ (s.put key val).2.sess
            rw [(put_sess s key val).1]; exact Zz hi
          · refine Eq.trans ?_ (put_sess s key val).2
            unfold SD.hold
            cases Zr (fun i => neq (gl (rd (s.put key val).2.rows i) 0) key) 0 (s.put key val).2.rows.length <;> rfl
        | false => rw [hpf hb]; exact same 4 (by decide) (by decide)
      cases s.look key with
      | none => exact fin
      | some j =>
        simp only []
        cases !decide (gi (rd s.rows j) 3 = 0) && !decide (gi (rd s.rows j) 3 = n) with
        | true => exact same 2 (by decide) (by decide)
        | false => exact fin
  rw [dF h6]
  by_cases h7 : k = 7
  · rw [dT h7]
    simp only [cond_false, cond_true]
    cases hl : s.look key with
    | none => exact same 1 (by decide) (by decide)
    | some j =>
      have hj := look_lt hl
      have hr := h.rows _ (Zz hj)
      simp only []
      cases decide (gi (rd s.rows j) 3 = n) with
      | true => exact well _ (h.setRow hj hr.2.1 (h.wr _ (Zz hj)).2 ⟨h1, Int.le_refl _⟩ (.inl rfl)) rfl
      | false => exact same 1 (by decide) (by decide)
  rw [dF h7]
  exact same 0 (by decide) (by decide)
def CmdV (c : V) : Prop := gi c 0 < 0 ∨ (0 ≤ gi c 0 ∧ gi c 0 ≤ 3 ∧ 1 ≤ gi c 1 ∧ gi c 1 ≤ 1000000 ∧ OpV (gi c 2) (gl c 3) (gl c 4) (gi c 5))
theorem VS.up {s : SD} (h : VS 0 s) (hi : s.idx < 1000000) : VS 0 s.up := by
  have e : s.up.idx = s.idx + 1 := rfl
  have i0 := h.i0
  have l1 := h.l1
  refine ⟨by omega, by omega, h.l0, by show s.lost ≤ s.idx + 1; omega, h.nr, h.nt, h.ns, h.nl, fun r hr => ?_, h.hold, h.asc, fun t ht => ?_, h.ord, h.nd, fun y hy => ?_, h.sasc, fun l hl => ?_, h.lasc, h.wr, h.wt⟩
  · obtain ⟨a, b, c, d⟩ := h.rows r hr; exact ⟨a, b, c, by omega⟩
  · obtain ⟨a, b, c, d⟩ := h.tombs t ht; exact ⟨a, b, by omega, d⟩
  · obtain ⟨a, b⟩ := h.sess y hy; exact ⟨a, by omega⟩
  · obtain ⟨a1, a2, a3, a4, a5, a6, a7, a8⟩ := h.lasts l hl; exact ⟨a1, a2, a3, a4, a5, a6, a7, by omega⟩
theorem VS.withLasts {s : SD} (h : VS 0 s) {l : List V} (h1 : ∀ x ∈ l, 0 ≤ gi x 0 ∧ gi x 0 ≤ 3 ∧ 1 ≤ gi x 1 ∧ gi x 1 ≤ 1000000 ∧ 0 ≤ gi x 2 ∧ gi x 2 ≤ 5 ∧ 1 ≤ gi x 3 ∧ gi x 3 ≤ s.idx) (h2 : AscI l) : VS 0 { s with lasts := l } :=
  ⟨h.i0, h.i1, h.l0, h.l1, h.nr, h.nt, h.ns, ascI_few h2 fun x hx => ⟨(h1 x hx).1, (h1 x hx).2.1⟩, h.rows, h.hold, h.asc, h.tombs, h.ord, h.nd, h.sess, h.sasc, h1, h2, h.wr, h.wt⟩
theorem lbI_hasnt {l : List V} (h : AscI l) {c : Int} (hn : hasI l c = false) {i : Nat} (hi : i < l.length) (he : lbI l c ≤ i) : c < gi (rd l i) 0 := by
  have e1 := lbI_spec h c i hi
  rw [decide_eq_false (show ¬ i < lbI l c by omega)] at e1
  have e1 : ¬ gi (rd l i) 0 < c := of_decide_eq_false e1
  have hlt : lbI l c < l.length := by omega
  have e2 : gi (rd l (lbI l c)) 0 ≠ c := fun e => by
    unfold hasI at hn
    rw [decide_eq_true hlt, decide_eq_true e] at hn; cases hn
  have e3 := lbI_spec h c _ hlt
  rw [decide_eq_false (Nat.lt_irrefl _)] at e3
  have e3 : ¬ gi (rd l (lbI l c)) 0 < c := of_decide_eq_false e3
  rcases Nat.lt_or_ge (lbI l c) i with d | d
  · have := h.lt _ _ d hi; omega
  · obtain rfl : i = lbI l c := by omega
    omega
theorem apply_cases {s : SD} (h : VS 0 s) (hi : s.idx < 1000000) {c : V} (hc : CmdV c) :
    (s.apply c = ((0, s.idx + 1), s.up) ∧ gi c 0 < 0) ∨
    (0 ≤ gi c 0 ∧ gi c 0 ≤ 3 ∧ ∃ l ∈ s.lasts, gi l 0 = gi c 0 ∧ gi l 1 = gi c 1 ∧ s.apply c = ((gi l 2, gi l 3), s.up)) ∨
    (0 ≤ gi c 0 ∧ gi c 0 ≤ 3 ∧ ∃ l ∈ s.lasts, gi l 0 = gi c 0 ∧ gi c 1 < gi l 1 ∧ s.apply c = ((5, s.idx + 1), s.up)) ∨
    (0 ≤ gi c 0 ∧ gi c 0 ≤ 3 ∧ OpV (gi c 2) (gl c 3) (gl c 4) (gi c 5) ∧ ∃ L : List V, s.apply c = (((s.up.do' (gi c 2) (gl c 3) (gl c 4) (gi c 5)).1, s.idx + 1), { (s.up.do' (gi c 2) (gl c 3) (gl c 4) (gi c 5)).2 with lasts := L }) ∧ AscI L ∧
      (∀ l, l ∈ L ↔ l = lastV (gi c 0) (gi c 1) (s.up.do' (gi c 2) (gl c 3) (gl c 4) (gi c 5)).1 (s.idx + 1) ∨ (l ∈ s.lasts ∧ gi l 0 ≠ gi c 0)) ∧ (∀ l ∈ s.lasts, gi l 0 = gi c 0 → gi l 1 < gi c 1)) := by
  have hlen := lbI_le s.lasts (gi c 0)
  by_cases h0 : gi c 0 < 0
  · refine .inl ⟨?_, h0⟩
    unfold SD.apply; rw [dT h0]; rfl
  rcases hc with hc | ⟨c0, c3, r1, r2, ho⟩
  · exact absurd hc h0
  have hsp := lbI_spec h.lasc (gi c 0)
  unfold SD.apply
  rw [dF h0, firstCl_lb h.lasc]
  simp only [cond_false]
  rw [show (decide (lbI s.lasts (gi c 0) < s.lasts.length) && decide (gi (rd s.lasts (lbI s.lasts (gi c 0))) 0 = gi c 0)) = hasI s.lasts (gi c 0) from rfl]
  cases hh : hasI s.lasts (gi c 0) with
  | true =>
    have hh' := hh
    unfold hasI at hh'
    rw [Bool.and_eq_true] at hh'
    have hlt : lbI s.lasts (gi c 0) < s.lasts.length := of_decide_eq_true hh'.1
    have he : gi (rd s.lasts (lbI s.lasts (gi c 0))) 0 = gi c 0 := of_decide_eq_true hh'.2
    generalize lbI s.lasts (gi c 0) = p at *
    have uniq : ∀ l ∈ s.lasts, gi l 0 = gi c 0 → l = rd s.lasts p := fun l hl e => by
      obtain ⟨i, hi, rfl⟩ := rd_ex hl
      rcases Nat.lt_trichotomy i p with d | d | d
      · have := h.lasc.lt _ _ d hlt; omega
      · rw [d]
      · have := h.lasc.lt _ _ d hi; omega
    by_cases e1 : gi (rd s.lasts p) 1 = gi c 1
    · rw [dT e1]
      exact .inr (.inl ⟨c0, c3, _, Zz hlt, he, e1, rfl⟩)
    rw [dF e1]
    by_cases e2 : gi c 1 < gi (rd s.lasts p) 1
    · rw [dT e2]
      exact .inr (.inr (.inl ⟨c0, c3, _, Zz hlt, he, e2, rfl⟩))
    rw [dF e2]
    refine .inr (.inr (.inr ⟨c0, c3, ho, _, rfl, ?_, fun l => ?_, fun l hl e => ?_⟩))
    · exact Asc.set (R := fun a b => gi a 0 < gi b 0) h.lasc (fun a ha => ha) (fun a ha => ha)
    · rw [he, (set_perm hlt _).mem_iff, List.mem_cons]
      have hp := rm_perm hlt
      refine or_congr Iff.rfl ⟨fun hl => ⟨ZbL hl, fun e => ?_⟩, fun ⟨hl, hne⟩ => ?_⟩
      · obtain ⟨i, hi, rfl⟩ := rd_ex hl
        have hrl := Zcn hlt
        rw [rdRm (Nat.le_of_lt hlt)] at e
        by_cases d : i < p
        · rw [if_pos d] at e
          have := h.lasc.lt _ _ d hlt; omega
        · rw [if_neg d] at e
          have := h.lasc.lt (i + 1) p (by omega) (by omega); omega
      · rcases List.mem_cons.1 (hp.mem_iff.1 hl) with rfl | hl
        · exact absurd he hne
        · exact hl
    · rw [uniq l hl e]; omega
  | false =>
    refine .inr (.inr (.inr ⟨c0, c3, ho, _, rfl, ?_, fun l => ?_, fun l hl e => ?_⟩))
    · refine Asc.ins (R := fun a b => gi a 0 < gi b 0) h.lasc hlen (fun h0 => ?_) (fun h0 => ?_)
      · have := hsp (lbI s.lasts (gi c 0) - 1) (by omega)
        rw [decide_eq_true (show lbI s.lasts (gi c 0) - 1 < lbI s.lasts (gi c 0) by omega)] at this
        exact of_decide_eq_true this
      · exact lbI_hasnt h.lasc hh h0 (Nat.le_refl _)
    · rw [(ins_perm _ _ _).mem_iff, List.mem_cons]
      refine or_congr Iff.rfl ⟨fun hl => ⟨hl, fun e => ?_⟩, fun hl => hl.1⟩
      obtain ⟨i, hi, rfl⟩ := rd_ex hl
      rcases Nat.lt_or_ge i (lbI s.lasts (gi c 0)) with d | d
      · have := hsp i hi
        rw [decide_eq_true d] at this
        have := of_decide_eq_true this; omega
      · have := lbI_hasnt h.lasc hh hi d; omega
    · obtain ⟨i, hi, rfl⟩ := rd_ex hl
      rcases Nat.lt_or_ge i (lbI s.lasts (gi c 0)) with d | d
      · have := hsp i hi
        rw [decide_eq_true d] at this
        have := of_decide_eq_true this; omega
      · have := lbI_hasnt h.lasc hh hi d; omega
theorem VS.apply {s : SD} (h : VS 0 s) (hi : s.idx < 1000000) {c : V} (hc : CmdV c) : VS 0 (s.apply c).2 ∧ (s.apply c).2.idx = s.idx + 1 ∧ 1 ≤ (s.apply c).1.2 ∧ (s.apply c).1.2 ≤ s.idx + 1 := by
  have i0 := h.i0
  rcases apply_cases h hi hc with ⟨e, -⟩ | ⟨-, -, l, hl, -, -, e⟩ | ⟨-, -, l, hl, -, -, e⟩ | ⟨c0, c3, ho, L, e, hA, hL, -⟩
  · rw [e]; exact ⟨h.up hi, rfl, by show 1 ≤ s.idx + 1; omega, Int.le_refl _⟩
  · rw [e]
    have := h.lasts l hl
    exact ⟨h.up hi, rfl, by show 1 ≤ gi l 3; omega, by show gi l 3 ≤ s.idx + 1; omega⟩
  · rw [e]; exact ⟨h.up hi, rfl, by show 1 ≤ s.idx + 1; omega, Int.le_refl _⟩
  · rcases hc with hc | ⟨-, -, r1, r2, -⟩
    · omega
    obtain ⟨d1, d2, d3, d4, -⟩ := (h.up hi).do' (show 1 ≤ s.idx + 1 by omega) (fun y hy => by have := h.sess y hy; show gi y 0 < s.idx + 1; omega) ho
    have d4 : _ = s.idx + 1 := d4
    rw [e]
    refine ⟨d1.withLasts (fun x hx => ?_) hA, d4, by show 1 ≤ s.idx + 1; omega, Int.le_refl _⟩
    rcases (hL x).1 hx with rfl | ⟨hx, -⟩
    · refine ⟨c0, c3, r1, r2, d2, ?_, ?_, ?_⟩
      · exact Int.le_trans d3 (by decide)
      · show 1 ≤ s.idx + 1; omega
      · show s.idx + 1 ≤ _; omega
    · obtain ⟨a1, a2, a3, a4, a5, a6, a7, a8⟩ := h.lasts x hx
      exact ⟨a1, a2, a3, a4, a5, a6, a7, by omega⟩
end Go.Eng.R
open Go Go.Eng
namespace Go.Eng.R
set_option maxRecDepth 100000
end Go.Eng.R
open Go Go.Eng
namespace Go.Eng.R
def opB (k : Int) (key : Bool) (nk nv : Nat) (n : Int) : Bool :=
  decide (nv ≤ 20) && (decide (0 ≤ n ∧ n ≤ 1000000) &&
    (bif decide (k = 1 ∨ k = 2 ∨ k = 3 ∨ k = 6 ∨ k = 7) then key else decide (nk = 0)) &&
    ((bif decide (k = 1 ∨ k = 2 ∨ k = 6) then true else decide (nv = 0)) &&
    ((bif decide (k = 0 ∨ k = 1 ∨ k = 3) then decide (n = 0) else bif decide (k = 4) then decide (n ≤ 1) else bif decide (k = 2) then true else decide (1 ≤ n)) && decide (0 ≤ k ∧ k ≤ 7))))
theorem impl_OpOk_eq {o : V} (ho : W_Op o) : impl_OpOk o = some (opB (gi o 0) (keyB (gl o 1)) (gl o 1).length (gl o 2).length (gi o 3)) := by
  unfold impl_OpOk
  rw [ZdR ho.2.1]
  simp only [ZcY, Zb2, Option.bind_some]
  generalize gi o 0 = k
  generalize keyB (gl o 1) = key
  generalize (gl o 1).length = nk
  generalize (gl o 2).length = nv
  generalize gi o 3 = n
  by_cases hk : 0 ≤ k ∧ k ≤ 7
  · obtain rfl | rfl | rfl | rfl | rfl | rfl | rfl | rfl : k = 0 ∨ k = 1 ∨ k = 2 ∨ k = 3 ∨ k = 4 ∨ k = 5 ∨ k = 6 ∨ k = 7 := by omega
    all_goals (cases key <;> simp [opB, Bool.cond_eq_ite] <;> (repeat' split) <;> simp_all <;> first | omega | (rw [Bool.eq_iff_iff]; simp; omega))
  · have hh : decide (0 ≤ k ∧ k ≤ 7) = false := by simpa using hk
    have h0 : decide (k = 0) = false := by simp; omega
    have h1 : decide (k = 1) = false := by simp; omega
    have h2 : decide (k = 2) = false := by simp; omega
    have h3 : decide (k = 3) = false := by simp; omega
    have h4 : decide (k = 4) = false := by simp; omega
    have h5 : decide (k = 5) = false := by simp; omega
    have h6 : decide (k = 6) = false := by simp; omega
    have h7 : decide (k = 7) = false := by simp; omega
    simp only [opB, hh, h0, h1, h2, h3, h4, h5, h6, h7, cond_false, Bool.and_false]
theorem spec_OpOk_eq {o : V} (ho : W_Op o) : spec_OpOk o = some (opB (gi o 0) (keyB (gl o 1)) (gl o 1).length (gl o 2).length (gi o 3)) := by
  unfold spec_OpOk
  rw [ZdQ ho.2.1]
  simp only [ZdD, Zcz, Option.bind_some]
  generalize gi o 0 = k
  generalize keyB (gl o 1) = key
  generalize (gl o 1).length = nk
  generalize (gl o 2).length = nv
  generalize gi o 3 = n
  by_cases hk : 0 ≤ k ∧ k ≤ 7
  · obtain rfl | rfl | rfl | rfl | rfl | rfl | rfl | rfl : k = 0 ∨ k = 1 ∨ k = 2 ∨ k = 3 ∨ k = 4 ∨ k = 5 ∨ k = 6 ∨ k = 7 := by omega
    all_goals (cases key <;> simp [opB, Bool.cond_eq_ite] <;> (repeat' split) <;> simp_all <;> omega)
  · have hh : decide (0 ≤ k ∧ k ≤ 7) = false := by simpa using hk
    simp only [opB, hh, Bool.and_false]
    by_cases h : k < 0
    · simp [h]
    · rw [show decide (k < 0) = false from by simpa using h, show decide (7 < k) = true from by simp; omega]; rfl
def cmdB (c : V) : Bool :=
  bif decide (gi c 0 = -1) then decide (gi c 1 = 0) && (decide (gi c 2 = 0) && opB (gi c 2) (keyB (gl c 3)) (gl c 3).length (gl c 4).length (gi c 5))
  else decide (0 ≤ gi c 0 ∧ gi c 0 ≤ 3) && (decide (1 ≤ gi c 1 ∧ gi c 1 ≤ 1000000) && opB (gi c 2) (keyB (gl c 3)) (gl c 3).length (gl c 4).length (gi c 5))
theorem spec_CmdOk_eq {c : V} (hc : W_Cmd c) : Zc6 c = some (cmdB c) := by
  unfold Zc6
  rw [spec_OpOk_eq (o := V.agg [(V.int .i64 (gi c 2)), (V.inl Zc (gl c 3)), (V.inl Zc (gl c 4)), (V.int .i64 (gi c 5))]) hc.2.2]
  simp only [Option.bind_some, gi_c0, gi_cs, gl_c0, gl_cs, cmdB]
  generalize opB _ _ _ _ _ = z
  by_cases h1 : gi c 0 = -1
  · simp only [h1, decide_true, cond_true]
    by_cases h2 : gi c 1 = 0 <;> by_cases h3 : gi c 2 = 0 <;> simp [h2, h3]
  · simp only [h1, decide_false, cond_false]
    by_cases h2 : 0 ≤ gi c 0 <;> by_cases h3 : gi c 0 < 4 <;> by_cases h4 : 1 ≤ gi c 1 <;> by_cases h5 : gi c 1 ≤ 1000000 <;> simp [h2, h3, h4, h5] <;> omega
theorem eqList_nil (l : List V) : Zbb (l.map Zan) [] = decide (l.length = 0) := by cases l <;> simp [Zbb]
theorem impl_same_noOp (c : V) : Zdg (Zn c) (Zn impl_noOp) = (decide (gi c 0 = -1) && (decide (gi c 1 = 0) && (decide (gi c 2 = 0) && (decide ((gl c 3).length = 0) && (decide ((gl c 4).length = 0) && decide (gi c 5 = 0)))))) := by
  simp only [Zdg, impl_Op_same, impl_noOp, Zn, gi_c0, gi_cs, gl_c0, gl_cs, Zdb, List.map_nil, eqList_nil]
  by_cases h0 : gi c 0 = -1 <;> by_cases h1 : gi c 1 = 0 <;> by_cases h2 : gi c 2 = 0 <;> by_cases h3 : (gl c 3).length = 0 <;> by_cases h4 : (gl c 4).length = 0 <;> simp [h0, h1, h2, h3, h4] <;> rfl
theorem impl_CmdOk_eq {c : V} (hc : W_Cmd c) : Zc5 c = some (cmdB c) := by
  unfold Zc5
  rw [impl_OpOk_eq (o := V.agg [(V.int .i64 (gi c 2)), (V.inl Zc (gl c 3)), (V.inl Zc (gl c 4)), (V.int .i64 (gi c 5))]) hc.2.2, impl_same_noOp]
  simp only [Option.bind_some, gi_c0, gi_cs, gl_c0, gl_cs, cmdB, ZcY]
  by_cases h1 : gi c 0 = -1
  · simp only [h1, decide_true, cond_true, Bool.true_and]
    rw [show decide (0 ≤ (-1 : Int) ∧ (-1 : Int) ≤ 3) = false from rfl]
    by_cases h2 : gi c 1 = 0 <;> by_cases h3 : gi c 2 = 0 <;> simp only [h2, h3, decide_true, decide_false, Bool.true_and, Bool.false_and, cond_false]
    simp only [opB]
    by_cases a3 : (gl c 3).length = 0 <;> by_cases a4 : (gl c 4).length = 0 <;> by_cases a5 : gi c 5 = 0 <;> simp [a3, a4, a5]
  · simp only [h1, decide_false, cond_false, Bool.false_and]
    generalize opB _ _ _ _ _ = z
    by_cases h2 : 0 ≤ gi c 0 ∧ gi c 0 ≤ 3 <;> by_cases h3 : 1 ≤ gi c 1 ∧ gi c 1 ≤ 1000000 <;> simp [h2, h3]
end Go.Eng.R
open Go Go.Eng
namespace Go.Eng.R
set_option maxRecDepth 100000
structure Eqv (a b : SD) : Prop where
  idx : a.idx = b.idx
  lost : a.lost = b.lost
  sess : a.sess = b.sess
  lasts : a.lasts = b.lasts
  rows : SameL RowE a.rows b.rows
  tombs : SameL TombE a.tombs b.tombs
theorem SameL.mem {E : V → V → Prop} {l l' : List V} (h : SameL E l l') {r : V} (hr : r ∈ l) : ∃ r' ∈ l', E r r' := by
  obtain ⟨i, hi, rfl⟩ := rd_ex hr
  have hi' : i < l'.length := by rw [← h.1]; exact hi
  exact ⟨_, Zz hi', h.2 i hi'⟩
theorem SameL.map {β : Type} {E : V → V → Prop} {f : V → β} (hf : ∀ a b, E a b → f a = f b) {l l' : List V} (h : SameL E l l') : l.map f = l'.map f := by
  refine List.ext_getElem (by rw [List.length_map, List.length_map]; exact h.1) fun i h1 h2 => ?_
  rw [List.getElem_map, List.getElem_map]
  rw [List.length_map] at h1 h2
  have := hf _ _ (h.2 i h2)
  rwa [rd_eq h1, rd_eq h2] at this
theorem RowE.kc {a b : V} (h : RowE a b) : kc a = kc b := by unfold R.kc; rw [h.1]
theorem TombE.kc {a b : V} (h : TombE a b) : kc a = kc b := by unfold R.kc; rw [h.1]
theorem VS.eqv {x : Int} {a b : SD} (h : VS x b) (e : Eqv a b) : VS x a := by
  have k1 : a.rows.map kc = b.rows.map kc := e.rows.map fun _ _ h => h.kc
  have k2 : a.tombs.map kc = b.tombs.map kc := e.tombs.map fun _ _ h => h.kc
  have k3 : (a.tombs.map fun t => gi t 1) = b.tombs.map fun t => gi t 1 := e.tombs.map fun _ _ h => h.2
  refine ⟨by rw [e.idx]; exact h.i0, by rw [e.idx]; exact h.i1, by rw [e.lost]; exact h.l0, by rw [e.lost, e.idx]; exact h.l1, by rw [e.rows.1]; exact h.nr, by rw [e.tombs.1]; exact h.nt, by rw [e.sess]; exact h.ns, by rw [e.lasts]; exact h.nl, fun r hr => ?_, fun r hr => ?_, e.rows.asc h.asc, fun t ht => ?_, by rw [k3]; exact h.ord, by rw [k1, k2]; exact h.nd, by rw [e.sess, e.idx]; exact h.sess, by rw [e.sess]; exact h.sasc, by rw [e.lasts, e.idx]; exact h.lasts, by rw [e.lasts]; exact h.lasc, fun r hr => ?_, fun t ht => ?_⟩
  · obtain ⟨r', hr', q1, q2, q3, q4⟩ := e.rows.mem hr
    rw [q1, q2, q3, e.idx]; exact h.rows r' hr'
  · obtain ⟨r', hr', q1, q2, q3, q4⟩ := e.rows.mem hr
    rw [q4, e.sess]; exact h.hold r' hr'
  · obtain ⟨t', ht', q1, q2⟩ := e.tombs.mem ht
    rw [q1, q2, e.idx, e.lost]; exact h.tombs t' ht'
  · obtain ⟨r', hr', q1, q2, q3, q4⟩ := e.rows.mem hr
    rw [q1, q2]; exact h.wr r' hr'
  · obtain ⟨t', ht', q1, q2⟩ := e.tombs.mem ht
    rw [q1]; exact h.wt t' ht'
theorem own_eq {s : SD} (h : VS 0 s) : ∃ a, Eqv a s ∧ Zcy (Za s.v) = some a.v := by
  have n1 := h.nr; have n2 := h.nt; have n3 := h.ns; have n4 := h.nl
  obtain ⟨R, T, e, hR, hT⟩ := own_O (s := s.v) (show s.rows.length ≤ 1000 by omega) (show s.tombs.length ≤ 1000 by omega) (show s.sess.length ≤ 1000 by omega) (show s.lasts.length ≤ 1000 by omega) (fun j hj => by
    have := h.rows _ (Zz (show j < s.rows.length from hj))
    have h1 := keyB_len this.1
    have h2 := this.2.1
    exact ⟨by show (gl (rd s.rows j) 0).length ≤ 1000; omega, by show (gl (rd s.rows j) 1).length ≤ 1000; omega⟩) (fun j hj => by
    have := h.tombs _ (Zz (show j < s.tombs.length from hj))
    have h1 := keyB_len this.1
    show (gl (rd s.tombs j) 0).length ≤ 1000; omega)
  exact ⟨⟨s.idx, R, T, s.lost, s.sess, s.lasts⟩, ⟨rfl, rfl, rfl, rfl, hR, hT⟩, e⟩
theorem opB_V {k : Int} {key val : List V} {n : Int} (h : opB k (keyB key) key.length val.length n = true) (wk : LW Zaz key) (wv : LW Zaz val) : OpV k key val n := by
  unfold opB at h
  simp only [Bool.and_eq_true, decide_eq_true_eq] at h
  obtain ⟨h1, ⟨-, h3⟩, -, -, h6⟩ := h
  refine ⟨h6, fun hk => ?_, fun hk => ?_, h1, wk, wv⟩
  · rw [decide_eq_true (show k = 1 ∨ k = 2 ∨ k = 3 ∨ k = 6 ∨ k = 7 from hk)] at h3; exact h3
  · rw [decide_eq_false (show ¬ (k = 1 ∨ k = 2 ∨ k = 3 ∨ k = 6 ∨ k = 7) from hk)] at h3
    exact of_decide_eq_true h3
theorem cmdB_V {c : V} (hw : W_Cmd c) (h : cmdB c = true) : CmdV c := by
  unfold cmdB at h
  by_cases h1 : gi c 0 = -1
  · exact .inl (by omega)
  · rw [decide_eq_false h1] at h
    simp only [cond_false, Bool.and_eq_true, decide_eq_true_eq] at h
    exact .inr ⟨h.1.1, h.1.2, h.2.1.1, h.2.1.2, opB_V h.2.2 hw.2.2.2.1 hw.2.2.2.2.1⟩
theorem CmdV.lens {c : V} (hw : W_Cmd c) (h : cmdB c = true) : (gl c 3).length ≤ 1000 ∧ (gl c 4).length ≤ 1000 ∧ (opK (gi c 2) → 0 < (gl c 3).length) ∧ (gi c 0 < 0 ∨ (0 ≤ gi c 0 ∧ gi c 0 ≤ 3)) := by
  have key : ∀ {k : Int} {n : Int}, opB k (keyB (gl c 3)) (gl c 3).length (gl c 4).length n = true → (gl c 3).length ≤ 1000 ∧ (gl c 4).length ≤ 1000 ∧ (opK k → 0 < (gl c 3).length) := fun {k n} h => by
    have ho := opB_V h hw.2.2.2.1 hw.2.2.2.2.1
    have hv := ho.val
    by_cases hk : opK k
    · have := ho.key hk
      have h1 := keyB_len this
      refine ⟨by omega, by omega, fun _ => ?_⟩
      unfold keyB at this
      simp only [Bool.and_eq_true, decide_eq_true_eq] at this
      omega
    · have := ho.nk hk
      exact ⟨by omega, by omega, fun h => absurd h hk⟩
  unfold cmdB at h
  by_cases h1 : gi c 0 = -1
  · rw [decide_eq_true h1] at h
    simp only [cond_true, Bool.and_eq_true] at h
    obtain ⟨a, b, d⟩ := key h.2.2
    exact ⟨a, b, d, .inl (by omega)⟩
  · rw [decide_eq_false h1] at h
    simp only [cond_false, Bool.and_eq_true, decide_eq_true_eq] at h
    obtain ⟨a, b, d⟩ := key h.2.2
    exact ⟨a, b, d, .inr h.1⟩
def zeroS : V := V.agg [(V.int .i64 0), (V.inl Zg []), (V.inl Zf []), (V.int .i64 0), (V.inl Zd []), (V.inl Ze [])]
def replyV (a b : Int) : V := V.agg [(V.int .i64 a), (V.int .i64 b)]
theorem ZdS {s c : V} (hs : ZbG s) (hc : W_Cmd c) (h : Zau s = false ∨ cmdB c = false ∨ gi s 0 = 1000000) : Zch (Za s) (Zn c) = some (zeroS, replyV 0 0) := by
  unfold Zch
  rw [show Za (Za s) = Za s from rfl, show Zn (Zn c) = Zn c from rfl, ZcQ hs]
  have hce : Zc5 (Zn c) = some (cmdB c) := impl_CmdOk_eq hc
  rw [hce]
  simp only [Option.bind_some, show gi (Za s) 0 = gi s 0 from rfl]
  rcases h with h | h | h
  · rw [h]; rfl
  · cases Zau s with
    | false => rfl
    | true => rw [h]; rfl
  · cases Zau s with
    | false => rfl
    | true =>
      cases cmdB c with
      | false => rfl
      | true => rw [decide_eq_true h]; rfl
theorem impl_Apply_eq {s : SD} (h : VS 0 s) (hi : s.idx < 1000000) {c : V} (hc : W_Cmd c) (hcb : cmdB c = true) :
    ∃ a, Eqv a s ∧ VS 0 a ∧ Zch (Za s.v) (Zn c) = some ((a.apply c).2.v, replyV (a.apply c).1.1 (a.apply c).1.2) := by
  obtain ⟨a, ea, e⟩ := own_eq h
  have ha := h.eqv ea
  refine ⟨a, ea, ha, ?_⟩
  have hce : Zc5 (Zn c) = some (cmdB c) := impl_CmdOk_eq hc
  obtain ⟨l1, l2, l3, l4⟩ := CmdV.lens hc hcb
  have i0 := ha.i0; have i1 := ha.i1; have n4 := ha.nl
  have hap := impl_apply_eq (s := a) (c := c) ha.asc ha.nr ha.nt ha.ns (by omega) ha.lasc (fun i hi => by have := ha.lasts _ (Zz hi); exact ⟨this.1, this.2.1⟩) i0 (by omega) l1 l2 l3 l4
  unfold Zch
  rw [show Za (Za s.v) = Za s.v from rfl, show Zn (Zn c) = Zn c from rfl, ZcQ h.W, h.B, hce, hcb]
  simp only [Option.bind_some, Bool.not_true, cond_false]
  rw [decide_eq_false (show ¬ gi (Za s.v) 0 = 1000000 by show ¬ s.idx = 1000000; omega), e]
  simp only [cond_false, Option.bind_some]
  rw [show Za a.v = a.v from rfl, hap]
  rfl
end Go.Eng.R
open Go Go.Eng
namespace Go.Eng.R
set_option maxRecDepth 100000
theorem B_Cmd.W {c : V} (h : B_Cmd c) : W_Cmd c := ⟨h.1, h.2.1, h.2.2.1, h.2.2.2.1.1, h.2.2.2.2.1.1, h.2.2.2.2.2⟩
theorem apply_or {s : SD} (hb : BI s) {c : V} (hc : B_Cmd c) :
    ((Zau s.v = false ∨ cmdB c = false ∨ s.idx = 1000000) ∧ Zch (Za s.v) (Zn c) = some (zeroS, replyV 0 0)) ∨
    (Zau s.v = true ∧ cmdB c = true ∧ VS 0 s ∧ s.idx < 1000000 ∧ CmdV c ∧ ∃ a, Eqv a s ∧ VS 0 a ∧ Zch (Za s.v) (Zn c) = some ((a.apply c).2.v, replyV (a.apply c).1.1 (a.apply c).1.2)) := by
  cases hv : Zau s.v with
  | false => exact .inl ⟨.inl rfl, ZdS hb.W hc.W (.inl hv)⟩
  | true =>
    cases hcb : cmdB c with
    | false => exact .inl ⟨.inr (.inl rfl), ZdS hb.W hc.W (.inr (.inl hcb))⟩
    | true =>
      have h := VS.of hb.W hv
      have i1 := h.i1
      by_cases hi : s.idx = 1000000
      · exact .inl ⟨.inr (.inr hi), ZdS hb.W hc.W (.inr (.inr hi))⟩
      · obtain ⟨a, e1, e2, e3⟩ := impl_Apply_eq h (by omega) hc.W hcb
        exact .inr ⟨rfl, rfl, h, by omega, cmdB_V hc.W hcb, a, e1, e2, e3⟩
theorem VS.zero : VS 0 ⟨0, [], [], 0, [], []⟩ :=
  ⟨Int.le_refl _, by decide, Int.le_refl _, Int.le_refl _, Nat.zero_le _, Nat.zero_le _, Nat.zero_le _, Nat.zero_le _, fun _ h => (by cases h), fun _ h => (by cases h), fun i h => absurd h (Nat.not_lt_zero _), fun _ h => (by cases h), List.Pairwise.nil, List.nodup_nil, fun _ h => (by cases h), fun i h => absurd h (Nat.not_lt_zero _), fun _ h => (by cases h), fun i h => absurd h (Nat.not_lt_zero _), fun _ h => (by cases h), fun _ h => (by cases h)⟩
end Go.Eng.R
open Go Go.Eng
namespace Go.Eng.R
set_option maxRecDepth 100000
theorem RowE.symm {a b : V} (h : RowE a b) : RowE b a := ⟨h.1.symm, h.2.1.symm, h.2.2.1.symm, h.2.2.2.symm⟩
theorem TombE.symm {a b : V} (h : TombE a b) : TombE b a := ⟨h.1.symm, h.2.symm⟩
theorem SameL.symm {E : V → V → Prop} (he : ∀ a b, E a b → E b a) {l l' : List V} (h : SameL E l l') : SameL E l' l := ⟨h.1.symm, fun j hj => he _ _ (h.2 j (by rw [← h.1]; exact hj))⟩
theorem sameState_l4 {x y : SD} (h : SameL RowE x.rows y.rows) (hl : x.rows.length ≤ 1000) : Zal (x.rows.length + 1) 0 x.v y.v = some (1, false, x.v, y.v) := by
  refine skip_loop (F := fun m i => Zal m i x.v y.v) ?_ ?_
  · intro m i hi
    have hy : i < y.rows.length := by rw [← h.1]; exact hi
    obtain ⟨q1, q2, q3, q4⟩ := h.2 i hy
    show Zal (m + 1) (i : Int) x.v y.v = _
    rw [Zal]
    simp only [show gl x.v 1 = x.rows from rfl, show gl y.v 1 = y.rows from rfl, Zam hi, Zo hi, Zo hy, Int.toNat_natCast, cond_true, q1, q2, q3, q4, show ∀ a, ZbV a a = true from fun a => Zdn a, Bool.not_true, cond_false, decide_true, Z6 hi (show x.rows.length ≤ 9223372036854775807 by omega)]
    rfl
  · intro m
    show Zal (m + 1) ((x.rows.length : Nat) : Int) x.v y.v = _
    rw [Zal, show gl x.v 1 = x.rows from rfl, Z3]; rfl
theorem sameState_l10 {x y : SD} (h : SameL TombE x.tombs y.tombs) (hl : x.tombs.length ≤ 1000) : Zab (x.tombs.length + 1) 0 x.v y.v = some (1, false, x.v, y.v) := by
  refine skip_loop (F := fun m i => Zab m i x.v y.v) ?_ ?_
  · intro m i hi
    have hy : i < y.tombs.length := by rw [← h.1]; exact hi
    obtain ⟨q1, q2⟩ := h.2 i hy
    show Zab (m + 1) (i : Int) x.v y.v = _
    rw [Zab]
    simp only [show gl x.v 2 = x.tombs from rfl, show gl y.v 2 = y.tombs from rfl, Zam hi, Zo hi, Zo hy, Int.toNat_natCast, cond_true, q1, q2, show ∀ a, ZbV a a = true from fun a => Zdn a, Bool.not_true, cond_false, decide_true, Z6 hi (show x.tombs.length ≤ 9223372036854775807 by omega)]
    rfl
  · intro m
    show Zab (m + 1) ((x.tombs.length : Nat) : Int) x.v y.v = _
    rw [Zab, show gl x.v 2 = x.tombs from rfl, Z3]; rfl
theorem sameState_l15 {x y : SD} (h : x.sess = y.sess) (hl : x.sess.length ≤ 1000) : Zac (x.sess.length + 1) 0 x.v y.v = some (1, false, x.v, y.v) := by
  refine skip_loop (F := fun m i => Zac m i x.v y.v) ?_ ?_
  · intro m i hi
    show Zac (m + 1) (i : Int) x.v y.v = _
    rw [Zac]
    simp only [show gl x.v 4 = x.sess from rfl, show gl y.v 4 = y.sess from rfl, ← h, Zam hi, Zo hi, Int.toNat_natCast, cond_true, beq_self_eq_true, Bool.and_self, Bool.not_true, cond_false, decide_true, Z6 hi (show x.sess.length ≤ 9223372036854775807 by omega)]
    rfl
  · intro m
    show Zac (m + 1) ((x.sess.length : Nat) : Int) x.v y.v = _
    rw [Zac, show gl x.v 4 = x.sess from rfl, Z3]; rfl
theorem sameState_l20 {x y : SD} (h : x.lasts = y.lasts) (hl : x.lasts.length ≤ 1000) : Zad (x.lasts.length + 1) 0 x.v y.v = some (1, false) := by
  refine skip_loop (F := fun m i => Zad m i x.v y.v) ?_ ?_
  · intro m i hi
    show Zad (m + 1) (i : Int) x.v y.v = _
    rw [Zad]
    simp only [show gl x.v 5 = x.lasts from rfl, show gl y.v 5 = y.lasts from rfl, ← h, Zam hi, Zo hi, Int.toNat_natCast, cond_true, Bool.and_self, Bool.not_true, cond_false, decide_true, Z6 hi (show x.lasts.length ≤ 9223372036854775807 by omega)]
    rfl
  · intro m
    show Zad (m + 1) ((x.lasts.length : Nat) : Int) x.v y.v = _
    rw [Zad, show gl x.v 5 = x.lasts from rfl, Z3]; rfl
theorem sameState_eq {x y : SD} (e : Eqv x y) (hx : x.rows.length ≤ 1000 ∧ x.tombs.length ≤ 1000 ∧ x.sess.length ≤ 1000 ∧ x.lasts.length ≤ 1000) : Zc7 x.v y.v = some true := by
  unfold Zc7
  simp only [show gl x.v 1 = x.rows from rfl, show gl x.v 2 = x.tombs from rfl, show gl x.v 4 = x.sess from rfl, show gl x.v 5 = x.lasts from rfl, show gi x.v 0 = x.idx from rfl, show gi x.v 3 = x.lost from rfl, show gl y.v 1 = y.rows from rfl, show gl y.v 2 = y.tombs from rfl, show gl y.v 4 = y.sess from rfl, show gl y.v 5 = y.lasts from rfl, show gi y.v 0 = y.idx from rfl, show gi y.v 3 = y.lost from rfl, ← e.idx, ← e.lost, ← e.sess, ← e.lasts, ← e.rows.1, ← e.tombs.1, decide_true, Bool.not_true, cond_false, show Za x.v = x.v from rfl, show Za y.v = y.v from rfl, Za7, sameState_l4 e.rows hx.1, Option.bind_some, show Nat.beq 1 0 = false from rfl, sameState_l10 e.tombs hx.2.1, sameState_l15 e.sess hx.2.2.1, sameState_l20 e.lasts hx.2.2.2]
theorem sameRows_eq {a b : SD} (h1 : a.lost = b.lost) (h2 : a.sess = b.sess) (h3 : SameL RowE a.rows b.rows) (h4 : SameL TombE a.tombs b.tombs) (ha : VS 0 a) : Zcb (Za a.v) (Za b.v) = some true := by
  have n1 := ha.nr; have n2 := ha.nt; have n3 := ha.ns; have n4 := ha.nl
  have e := sameState_eq (x := a) (y := { b with idx := a.idx, lasts := a.lasts }) ⟨rfl, h1, h2, rfl, h3, h4⟩ ⟨by omega, by omega, by omega, by omega⟩
  unfold Zcb
  refine Eq.trans (congrArg (fun o => Option.bind o _) (show _ = _ from e)) ?_
  rfl
end Go.Eng.R
open Go Go.Eng
namespace Go.Eng.R
set_option maxRecDepth 100000
theorem law_Applies {code : List V} (h : LW Zaz code) : ZbW code = some true := by
  unfold ZbW
  obtain ⟨⟨st, c⟩, e, ⟨s, hb, es⟩, hc⟩ := drawApply_O h
  have es : st = s.v := es
  subst es
  have hcm : B_Cmd c := hc
  rw [e]
  simp only [Option.bind_some]
  have hz : Zbi (V.agg [(V.int .i64 0), (V.inl Zg []), (V.inl Zf []), (V.int .i64 0), (V.inl Zd []), (V.inl Ze [])]) = some true := by
    have := ZcQ VS.zero.W
    rw [VS.zero.B] at this; exact this
  rcases apply_or hb hcm with ⟨hno, e1⟩ | ⟨hv, hcb, hs, hi, hcv, a, ea, ha, e1⟩
  · rw [e1]
    simp only [Option.bind_some, show ∀ x y, gi (replyV x y) 1 = y from fun _ _ => rfl, show gl zeroS 1 = [] from rfl, List.length_nil, hz]
    rw [spec_StateOk_eq hb.W, show Zc6 (Zn c) = some (cmdB c) from spec_CmdOk_eq hcm.W]
    simp only [Option.bind_some, show gi s.v 0 = s.idx from rfl]
    rcases hno with hno | hno | hno
    · rw [hno]; rfl
    · rw [hno]; cases Zau s.v <;> rfl
    · rw [decide_eq_true (show (1000000 : Int) ≤ s.idx by omega)]; cases Zau s.v <;> cases cmdB c <;> rfl
  have hai : a.idx < 1000000 := by rw [ea.idx]; exact hi
  obtain ⟨f1, f2, f3, f4⟩ := ha.apply hai hcv
  have i0 := ha.i0
  rw [e1]
  simp only [Option.bind_some, show ∀ x y, gi (replyV x y) 1 = y from fun _ _ => rfl, show ∀ x y, gi (replyV x y) 0 = x from fun _ _ => rfl, show ∀ t : SD, gi t.v 0 = t.idx from fun _ => rfl]
  rw [spec_StateOk_eq hb.W, show Zc6 (Zn c) = some (cmdB c) from spec_CmdOk_eq hcm.W, ZcQ f1.W, f1.B, hv, hcb]
  simp only [Option.bind_some, Bool.not_true, cond_false]
  rw [decide_eq_false (show ¬ (1000000 : Int) ≤ s.idx by omega), Zax (show -9223372036854775808 ≤ s.idx + 1 by have := ea.idx; omega) (by omega), f2, ea.idx, decide_eq_true (rfl : s.idx + 1 = s.idx + 1), decide_eq_false (show ¬ s.idx + 1 < (a.apply c).1.2 by have := ea.idx; omega), decide_eq_false (show ¬ (a.apply c).1.2 < 1 by omega)]
  simp only [Bool.not_true, cond_false]
  have same : ∀ x : SD, x.rows = a.rows → x.tombs = a.tombs → x.lost = a.lost → x.sess = a.sess → (Option.bind (Zcb (Za s.v) (Za x.v)) fun r => some r) = some true := fun x h1 h2 h3 h4 => by
    rw [sameRows_eq (a := s) (b := x) (by rw [h3, ea.lost]) (by rw [h4, ea.sess]) (by rw [h1]; exact ea.rows.symm fun _ _ h => h.symm) (by rw [h2]; exact ea.tombs.symm fun _ _ h => h.symm) hs]; rfl
  rcases apply_cases ha hai hcv with ⟨e2, -⟩ | ⟨-, -, l, hl, -, -, e2⟩ | ⟨-, -, l, hl, -, -, e2⟩ | ⟨c0, c3, ho, L, e2, hA, hL, -⟩
  · rw [e2]
    show (bif decide ((0 : Int) = 0) then (bif decide (a.idx + 1 = s.idx + 1) then some true else _) else _) = _
    rw [ea.idx, decide_eq_true (rfl : s.idx + 1 = s.idx + 1)]; rfl
  · rw [e2]
    have := same a.up rfl rfl rfl rfl
    rw [show (((gi l 2, gi l 3), a.up) : (Int × Int) × SD).2.v = a.up.v from rfl, this]
    cases decide ((((gi l 2, gi l 3), a.up) : (Int × Int) × SD).1.1 = 0) <;> cases decide ((((gi l 2, gi l 3), a.up) : (Int × Int) × SD).1.2 = s.idx + 1) <;> rfl
  · rw [e2]
    have := same a.up rfl rfl rfl rfl
    rw [show (((5, a.idx + 1), a.up) : (Int × Int) × SD).2.v = a.up.v from rfl, this]
    rfl
  · have hd := (ha.up hai).do' (show 1 ≤ a.idx + 1 by omega) (fun y hy => by have := ha.sess y hy; show gi y 0 < a.idx + 1; omega) ho
    obtain ⟨d1, d2, d3, d4, d5⟩ := hd
    rw [e2]
    show (bif decide ((a.up.do' (gi c 2) (gl c 3) (gl c 4) (gi c 5)).1 = 0) then (bif decide (a.idx + 1 = s.idx + 1) then some true else _) else _) = _
    by_cases h0 : (a.up.do' (gi c 2) (gl c 3) (gl c 4) (gi c 5)).1 = 0
    · rw [decide_eq_true h0, ea.idx, decide_eq_true (rfl : s.idx + 1 = s.idx + 1)]; rfl
    · rw [decide_eq_false h0]
      have e5 := d5 h0
      exact same { (a.up.do' (gi c 2) (gl c 3) (gl c 4) (gi c 5)).2 with lasts := L } (by rw [e5]; rfl) (by rw [e5]; rfl) (by rw [e5]; rfl) (by rw [e5]; rfl)
end Go.Eng.R
open Go Go.Eng
namespace Go.Eng.R
theorem wt_byte {x : V} (h : WtT tab Zc x) : Zaz x := wt_u8 (h.cell 0 rfl)
def readable : List TypeId := [5, 22]
end Go.Eng.R
