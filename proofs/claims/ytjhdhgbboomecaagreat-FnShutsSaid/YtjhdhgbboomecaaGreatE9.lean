/- An own evaluator of the program's form, proved sound, and what it says of this law's functions: part 9. -/
import Derived.Test.YtjhdhgbboomecaaGreatE8
set_option linter.unusedVariables false
open Go Go.Eng
namespace Go.Eng.R
set_option maxRecDepth 100000
def kc (r : V) : List Int := Zq (gl r 0)
theorem Znw (a b : V) : neq (gl a 0) (gl b 0) = decide (kc a = kc b) := Zcu _ _
theorem ZcT (a b : List V) : neq a b = decide (Zq a = Zq b) := Zcu _ _
structure VS (x : Int) (s : SD) : Prop where
  i0 : 0 ≤ s.idx
  i1 : s.idx ≤ 1000000
  l0 : 0 ≤ s.lost
  l1 : s.lost ≤ s.idx
  nr : s.rows.length ≤ 20
  nt : s.tombs.length ≤ 10
  ns : s.sess.length ≤ 8
  nl : s.lasts.length ≤ 4
  rows : ∀ r ∈ s.rows, Za4 (gl r 0) = true ∧ (gl r 1).length ≤ 20 ∧ 1 ≤ gi r 2 ∧ gi r 2 ≤ s.idx
  hold : ∀ r ∈ s.rows, gi r 3 = 0 ∨ gi r 3 = x ∨ ∃ y ∈ s.sess, gi y 0 = gi r 3
  asc : AscN (fun r => gl r 0) s.rows
  tombs : ∀ t ∈ s.tombs, Za4 (gl t 0) = true ∧ 1 ≤ gi t 1 ∧ gi t 1 ≤ s.idx ∧ s.lost ≤ gi t 1
  ord : (s.tombs.map fun t => gi t 1).Pairwise (· ≤ ·)
  nd : (s.rows.map kc ++ s.tombs.map kc).Nodup
  sess : ∀ y ∈ s.sess, 1 ≤ gi y 0 ∧ gi y 0 ≤ s.idx
  sasc : AscI s.sess
  lasts : ∀ l ∈ s.lasts, 0 ≤ gi l 0 ∧ gi l 0 ≤ 3 ∧ 1 ≤ gi l 1 ∧ gi l 1 ≤ 1000000 ∧ 0 ≤ gi l 2 ∧ gi l 2 ≤ 5 ∧ 1 ≤ gi l 3 ∧ gi l 3 ≤ s.idx
  lasc : AscI s.lasts
  wr : ∀ r ∈ s.rows, LW ZS (gl r 0) ∧ LW ZS (gl r 1)
  wt : ∀ t ∈ s.tombs, LW ZS (gl t 0)
theorem pw_of {α β : Type} {l : List α} {f : α → β} {R : β → β → Prop} (h : ∀ i j (hi : i < l.length) (hj : j < l.length), i < j → R (f l[i]) (f l[j])) : (l.map f).Pairwise R := by
  rw [List.pairwise_iff_getElem]
  intro i j hi hj hij
  rw [List.getElem_map, List.getElem_map]
  rw [List.length_map] at hi hj
  exact h i j hi hj hij
theorem pw_at {β : Type} {l : List V} {f : V → β} {R : β → β → Prop} (h : (l.map f).Pairwise R) {i j : Nat} (hj : j < l.length) (hij : i < j) : R (f (rd l i)) (f (rd l j)) := by
  rw [List.pairwise_iff_getElem] at h
  have := h i j (by rw [List.length_map]; omega) (by rw [List.length_map]; omega) hij
  rw [List.getElem_map, List.getElem_map] at this
  rw [ZdT hj, ZdT (show i < l.length by omega)]; exact this
theorem Zp6 {l : List V} (ha : AscN (fun r => gl r 0) l) : (l.map kc).Nodup := by
  refine pw_of (R := (· ≠ ·)) fun i j hi hj hij e => ?_
  have h1 : nlt (gl (rd l i) 0) (gl (rd l j) 0) = true := ha.lt hij hj
  have h2 := Zi7 h1
  rw [Znw, ZdT hi, ZdT hj, decide_eq_true e] at h2; cases h2
theorem ZbB {l : List V} {r : V} (h : r ∈ l) : ∃ i, i < l.length ∧ rd l i = r := by
  obtain ⟨i, hi, e⟩ := List.getElem_of_mem h
  exact ⟨i, hi, by rw [ZdT hi]; exact e⟩
theorem fK_neg {l : List V} {k : List V} (h : ¬ 0 ≤ fK l k) : ∀ r ∈ l, kc r ≠ Zq k := by
  intro r hr e
  obtain ⟨i, hi, e2⟩ := ZbB hr
  unfold fK at h
  cases hf : Zr (fun i => neq (gl (rd l i) 0) k) 0 l.length with
  | some j => rw [hf] at h; exact h (Int.natCast_nonneg j)
  | none =>
    have h9 : neq (gl (rd l i) 0) k = false := firstI_none.1 hf i (Nat.zero_le _) (by omega)
    rw [e2, ZcT, decide_eq_true (show Zq (gl r 0) = Zq k from e)] at h9; cases h9
theorem fK_no {l : List V} {k : List V} (h : ∀ r ∈ l, kc r ≠ Zq k) : ¬ 0 ≤ fK l k := by
  unfold fK
  cases hf : Zr (fun i => neq (gl (rd l i) 0) k) 0 l.length with
  | some j =>
    obtain ⟨-, h1, h2, -⟩ := ZX hf
    have h2 : neq (gl (rd l j) 0) k = true := h2
    rw [ZcT] at h2
    exact absurd (of_decide_eq_true h2) (h _ (Zu (show j < l.length by omega)))
  | none => decide
theorem fI_ex' {l : List V} {id : Int} (h : ¬ fI l id < 0) : ∃ y ∈ l, gi y 0 = id := by
  unfold fI at h
  cases hf : Zr (fun i => decide (gi (rd l i) 0 = id)) 0 l.length with
  | none => rw [hf] at h; exact absurd (show (-1 : Int) < 0 by decide) h
  | some j =>
    obtain ⟨-, h1, h2, -⟩ := ZX hf
    exact ⟨_, Zu (show j < l.length by omega), of_decide_eq_true h2⟩
theorem fI_mem {l : List V} {id : Int} (h : ∃ y ∈ l, gi y 0 = id) : ¬ fI l id < 0 := by
  obtain ⟨y, hy, e⟩ := h
  obtain ⟨k, hk, e2⟩ := ZbB hy
  unfold fI
  cases hf : Zr (fun i => decide (gi (rd l i) 0 = id)) 0 l.length with
  | none =>
    have h9 : decide (gi (rd l k) 0 = id) = false := firstI_none.1 hf k (Nat.zero_le _) (by omega)
    rw [e2, decide_eq_true e] at h9; cases h9
  | some j => show ¬ (j : Int) < 0; omega
theorem VS.of {s : SD} (hw : Zb4 s.v) (h : ZaJ s.v = true) : VS 0 s := by
  obtain ⟨a0, a1, a2, a3, a4, a5, a6, a7⟩ := sv_head h
  have g0 : gi s.v 0 = s.idx := rfl
  have g1 : gl s.v 1 = s.rows := rfl
  have g2 : gl s.v 2 = s.tombs := rfl
  have g3 : gi s.v 3 = s.lost := rfl
  have g4 : gl s.v 4 = s.sess := rfl
  have row := fun i (hi : i < s.rows.length) => by
    have := sv_row h (i := i) hi
    unfold Zd9 at this
    rw [g0, g1, g4] at this
    simp only [Bool.and_eq_true, Bool.or_eq_true, Bool.not_eq_true', decide_eq_false_iff_not, decide_eq_true_eq] at this
    exact this
  have ha := Zno (ZoH h)
  have tomb := fun i (hi : i < s.tombs.length) => by
    have := sv_tomb h (i := i) hi
    unfold ZcC at this
    rw [g0, g1, g2, g3] at this
    simp only [Bool.and_eq_true, Bool.or_eq_true, Bool.not_eq_true', decide_eq_false_iff_not, decide_eq_true_eq] at this
    exact this
  refine ⟨a0, a1, a2, a3, a4, a5, a6, a7, fun r hr => ?_, fun r hr => ?_, ha, fun t ht => ?_, ?_, ?_, fun y hy => ?_, Zn9 h, fun l hl => ?_, Zoa h, fun r hr => ?_, fun t ht => ?_⟩
  · obtain ⟨i, hi, rfl⟩ := ZbB hr
    obtain ⟨b1, b2, b3, b4, -⟩ := row i hi
    exact ⟨b1, by omega, by omega, by omega⟩
  · obtain ⟨i, hi, rfl⟩ := ZbB hr
    obtain ⟨-, -, -, -, b5, -⟩ := row i hi
    rcases b5 with b5 | b5
    · exact .inl b5
    · exact .inr (.inr (fI_ex' b5))
  · obtain ⟨i, hi, rfl⟩ := ZbB ht
    obtain ⟨b1, b2, b3, b4, b5, b6, -⟩ := tomb i hi
    exact ⟨b1, by omega, by omega, by omega⟩
  · have step : ∀ i, i + 1 < s.tombs.length → gi (rd s.tombs i) 1 ≤ gi (rd s.tombs (i + 1)) 1 := fun i hi => by
      obtain ⟨-, -, -, -, -, -, b7⟩ := tomb (i + 1) hi
      rw [Nat.add_sub_cancel] at b7; omega
    have all : ∀ j i, i ≤ j → j < s.tombs.length → gi (rd s.tombs i) 1 ≤ gi (rd s.tombs j) 1 := by
      intro j
      induction j with
      | zero => intro i hi _; obtain rfl : i = 0 := by omega
                exact Int.le_refl _
      | succ j ih =>
        intro i hi hj
        rcases Nat.lt_or_ge i (j + 1) with c | c
        · exact Int.le_trans (ih i (by omega) (by omega)) (step j hj)
        · obtain rfl : i = j + 1 := by omega
          exact Int.le_refl _
    refine pw_of (f := fun t => gi t 1) fun i j hi hj hij => ?_
    have := all j i (by omega) hj
    rw [ZdT hi, ZdT hj] at this; exact this
  · rw [List.nodup_append]
    refine ⟨Zp6 ha, ?_, ?_⟩
    · refine pw_of (R := (· ≠ ·)) fun i j hi hj hij e => ?_
      obtain ⟨-, -, b3, -⟩ := tomb j hj
      have b3 : fK s.tombs (gl (rd s.tombs j) 0) = (j : Int) := b3
      unfold fK at b3
      cases hf : Zr (fun i => neq (gl (rd s.tombs i) 0) (gl (rd s.tombs j) 0)) 0 s.tombs.length with
      | none => rw [hf] at b3; have b3 : (-1 : Int) = (j : Int) := b3; omega
      | some m =>
        rw [hf] at b3
        have b3 : (m : Int) = (j : Int) := b3
        obtain ⟨-, -, -, h4⟩ := ZX hf
        have h5 : neq (gl (rd s.tombs i) 0) (gl (rd s.tombs j) 0) = false := h4 i (Nat.zero_le _) (by omega)
        rw [Znw, ZdT hi, ZdT hj, decide_eq_true e] at h5; cases h5
    · intro a ha' b hb e
      obtain ⟨r, hr, rfl⟩ := List.mem_map.1 ha'
      obtain ⟨t, ht, rfl⟩ := List.mem_map.1 hb
      obtain ⟨i, hi, rfl⟩ := ZbB ht
      obtain ⟨-, b2, -⟩ := tomb i hi
      have b2 : ¬ 0 ≤ fK s.rows (gl (rd s.tombs i) 0) := b2
      exact fK_neg b2 r hr e
  · obtain ⟨i, hi, rfl⟩ := ZbB hy
    exact sessB_id (ZoI h hi)
  · obtain ⟨i, hi, rfl⟩ := ZbB hl
    exact Zpk h hi
  · have := hw.2.1.2 r hr
    exact ⟨this.1, this.2.1⟩
  · exact (hw.2.2.1.2 t ht).1
theorem VS.W {s : SD} (h : VS 0 s) : Zb4 s.v := by
  have b0 := h.i0; have b1 := h.i1
  have hl := h.l0; have hl1 := h.l1
  have n1 := h.nr; have n2 := h.nt; have n3 := h.ns; have n4 := h.nl
  have sI : ∀ y ∈ s.sess, I64 (gi y 0) := fun y hy => by have := h.sess y hy; exact ⟨by omega, by omega⟩
  refine ⟨⟨by show -9223372036854775808 ≤ s.idx; omega, by show s.idx ≤ 9223372036854775807; omega⟩, ⟨by show s.rows.length ≤ _; omega, fun r hr => ?_⟩, ⟨by show s.tombs.length ≤ _; omega, fun t ht => ?_⟩, ⟨by show -9223372036854775808 ≤ s.lost; omega, by show s.lost ≤ 9223372036854775807; omega⟩, ⟨by show s.sess.length ≤ _; omega, fun y hy => ⟨sI y hy, trivial⟩⟩, ⟨by show s.lasts.length ≤ _; omega, fun l hl => ?_⟩⟩
  · have h1 := h.wr r hr; have h2 := h.rows r hr
    refine ⟨h1.1, h1.2, ⟨by omega, by omega⟩, ?_⟩
    rcases h.hold r hr with e | e | ⟨y, hy, e⟩
    · rw [e]; exact ⟨by decide, by decide⟩
    · rw [e]; exact ⟨by decide, by decide⟩
    · rw [← e]; exact sI y hy
  · have h1 := h.wt t ht; have h2 := h.tombs t ht
    exact ⟨h1, ⟨by omega, by omega⟩⟩
  · have := h.lasts l hl
    exact ⟨⟨by omega, by omega⟩, ⟨by omega, by omega⟩, ⟨by omega, by omega⟩, ⟨by omega, by omega⟩⟩
theorem VS.B {s : SD} (h : VS 0 s) : ZaJ s.v = true := by
  have hnd := List.nodup_append.1 h.nd
  unfold ZaJ
  simp only [Bool.and_eq_true, List.all_eq_true, List.mem_range]
  refine ⟨decide_eq_true ⟨h.i0, h.i1, h.l0, h.l1, h.nr, h.nt, h.ns, h.nl⟩, fun i hi => ?_, fun i hi => ?_, fun i hi => ?_, fun i hi => ?_⟩
  · have hi : i < s.rows.length := hi
    obtain ⟨b1, b2, b3, b4⟩ := h.rows _ (Zu hi)
    unfold Zd9
    simp only [Bool.and_eq_true, Bool.or_eq_true, Bool.not_eq_true', decide_eq_false_iff_not, decide_eq_true_eq]
    refine ⟨b1, by show ¬ (20 : Int) < (((gl (rd s.rows i) 1).length : Nat) : Int); omega, by show ¬ gi (rd s.rows i) 2 < 1; omega, by show ¬ s.idx < gi (rd s.rows i) 2; omega, ?_, ?_⟩
    · rcases h.hold _ (Zu hi) with e | e | e
      · exact .inl e
      · exact .inl e
      · exact .inr (fI_mem e)
    · by_cases h0 : i = 0
      · exact .inl h0
      · refine .inr ?_
        have := h.asc (i - 1) (by omega)
        rw [show i - 1 + 1 = i by omega] at this; exact this
  · have hi : i < s.tombs.length := hi
    obtain ⟨b1, b2, b3, b4⟩ := h.tombs _ (Zu hi)
    unfold ZcC
    simp only [Bool.and_eq_true, Bool.or_eq_true, Bool.not_eq_true', decide_eq_false_iff_not, decide_eq_true_eq]
    refine ⟨b1, ?_, ?_, by show ¬ gi (rd s.tombs i) 1 < 1; omega, by show ¬ s.idx < gi (rd s.tombs i) 1; omega, by show ¬ gi (rd s.tombs i) 1 < s.lost; omega, ?_⟩
    · exact fK_no fun r hr e => hnd.2.2 _ (List.mem_map_of_mem hr) _ (List.mem_map_of_mem (Zu hi)) e
    · show fK s.tombs (gl (rd s.tombs i) 0) = (i : Int)
      refine ZdN (ZgY hi (Zea _) fun t ht => ?_)
      show neq (gl (rd s.tombs t) 0) (gl (rd s.tombs i) 0) = false
      rw [Znw]
      exact decide_eq_false (pw_at hnd.2.1 hi ht)
    · by_cases h0 : i = 0
      · exact .inl h0
      · refine .inr ?_
        have := pw_at (f := fun t => gi t 1) h.ord hi (show i - 1 < i by omega)
        show ¬ gi (rd s.tombs i) 1 < gi (rd s.tombs (i - 1)) 1
        omega
  · have hi : i < s.sess.length := hi
    obtain ⟨b1, b2⟩ := h.sess _ (Zu hi)
    unfold ZdW
    simp only [Bool.and_eq_true, Bool.or_eq_true, Bool.not_eq_true', decide_eq_false_iff_not, decide_eq_true_eq]
    refine ⟨by show ¬ gi (rd s.sess i) 0 < 1; omega, by show ¬ s.idx < gi (rd s.sess i) 0; omega, ?_⟩
    by_cases h0 : i = 0
    · exact .inl h0
    · refine .inr ?_
      have := h.sasc (i - 1) (by omega)
      rw [show i - 1 + 1 = i by omega] at this; exact this
  · have hi : i < s.lasts.length := hi
    unfold ZeJ
    simp only [Bool.and_eq_true, Bool.or_eq_true, decide_eq_true_eq]
    refine ⟨h.lasts _ (Zu hi), ?_⟩
    by_cases h0 : i = 0
    · exact .inl h0
    · refine .inr ?_
      have := h.lasc (i - 1) (by omega)
      rw [show i - 1 + 1 = i by omega] at this; exact this
end Go.Eng.R
open Go Go.Eng
namespace Go.Eng.R
set_option maxRecDepth 100000
theorem rdRm {l : List V} {i : Nat} (hi : i ≤ l.length) (t : Nat) : rd (Zae l i) t = rd l (if t < i then t else t + 1) := by
  have h1 : (l.take i).length = i := by rw [List.length_take]; omega
  unfold Zae rd
  simp only [List.getD]
  by_cases h : t < i
  · rw [List.getElem?_append_left (by omega), List.getElem?_take, if_pos h, if_pos h]
  · rw [List.getElem?_append_right (by omega), h1, List.getElem?_drop, if_neg h, show i + 1 + (t - i) = t + 1 by omega]
def Asc (R : V → V → Prop) (l : List V) : Prop := ∀ i, i + 1 < l.length → R (rd l i) (rd l (i + 1))
theorem Asc.rm {R : V → V → Prop} {l : List V} {p : Nat} (h : Asc R l) (hp : p < l.length) (ht : ∀ a b c, R a b → R b c → R a c) : Asc R (Zae l p) := by
  intro i hi
  rw [Zcz hp] at hi
  rw [rdRm (Nat.le_of_lt hp), rdRm (Nat.le_of_lt hp)]
  by_cases c : i < p
  · rw [if_pos c]
    by_cases d : i + 1 < p
    · rw [if_pos d]; exact h i (by omega)
    · rw [if_neg d]; exact ht _ _ _ (h i (by omega)) (h (i + 1) (by omega))
  · rw [if_neg c, if_neg (by omega)]; exact h (i + 1) (by omega)
theorem Asc.set {R : V → V → Prop} {l : List V} {p : Nat} {x : V} (h : Asc R l) (h1 : ∀ a, R a (rd l p) → R a x) (h2 : ∀ a, R (rd l p) a → R x a) : Asc R (l.set p x) := by
  intro i hi
  rw [List.length_set] at hi
  by_cases c : i = p
  · subst c
    rw [Zbe (by omega), ZdM (by omega)]; exact h2 _ (h i hi)
  · rw [ZdM c]
    by_cases d : i + 1 = p
    · subst d; rw [Zbe (by omega)]; exact h1 _ (h i hi)
    · rw [ZdM d]; exact h i hi
theorem asc_tr : ∀ a b c : V, nlt (gl a 0) (gl b 0) = true → nlt (gl b 0) (gl c 0) = true → nlt (gl a 0) (gl c 0) = true := fun _ _ _ h1 h2 => ZiI h1 h2
theorem ascI_few : ∀ {l : List V}, AscI l → (∀ x ∈ l, 0 ≤ gi x 0 ∧ gi x 0 ≤ 3) → l.length ≤ 4 := by
  intro l h hb
  have key : ∀ i, i < l.length → (i : Int) ≤ gi (rd l i) 0 := by
    intro i
    induction i with
    | zero => intro hi; exact (hb _ (Zu hi)).1
    | succ i ih =>
      intro hi
      have h1 := ih (by omega)
      have h2 := h i hi
      omega
  rcases Nat.lt_or_ge 4 l.length with c | c
  · have h1 := key 4 c
    have h2 := (hb _ (Zu c)).2
    omega
  · exact c
def fnd (l : List V) (k : List Int) : Option V := l.find? fun x => decide (kc x = k)
theorem ZfH (x : V) (l : List V) (k : List Int) : fnd (x :: l) k = bif decide (kc x = k) then some x else fnd l k := by
  unfold fnd
  rw [List.find?_cons]
  cases decide (kc x = k) <;> rfl
theorem ZlD : ∀ {l : List V}, (l.map kc).Nodup → ∀ {r : V}, r ∈ l → fnd l (kc r) = some r
  | [], _, r, h => by cases h
  | x :: l, hn, r, h => by
    rw [ZfH]
    rw [List.map_cons, List.nodup_cons] at hn
    rcases List.mem_cons.1 h with rfl | h
    · rw [decide_eq_true rfl]; rfl
    · have : kc x ≠ kc r := fun e => hn.1 (by rw [e]; exact List.mem_map_of_mem h)
      rw [decide_eq_false this]; exact ZlD hn.2 h
theorem Zeb : ∀ {l : List V} {k : List Int}, (∀ r ∈ l, kc r ≠ k) → fnd l k = none
  | [], _, _ => rfl
  | x :: l, k, h => by
    rw [ZfH, decide_eq_false (h x (List.mem_cons_self ..))]
    exact Zeb fun r hr => h r (List.mem_cons_of_mem _ hr)
theorem Zec {l : List V} {k : List Int} {r : V} (h : fnd l k = some r) : r ∈ l ∧ kc r = k := ⟨List.mem_of_find?_eq_some h, by have := List.find?_some h; exact of_decide_eq_true this⟩
theorem ZjZ {l : List V} {k : List Int} (h : fnd l k = none) : ∀ r ∈ l, kc r ≠ k := fun r hr e => by
  have := List.find?_eq_none.1 h r hr
  exact this (decide_eq_true e)
theorem Zj0 {l l' : List V} (hp : l.Perm l') (hn : (l.map kc).Nodup) (k : List Int) : fnd l k = fnd l' k := by
  cases h : fnd l k with
  | some r =>
    obtain ⟨h1, rfl⟩ := Zec h
    exact (ZlD ((hp.map kc).nodup hn) (hp.mem_iff.1 h1)).symm
  | none => exact (Zeb fun r hr => ZjZ h r (hp.mem_iff.2 hr)).symm
theorem Zfs {l : List V} (hn : (l.map kc).Nodup) {i : Nat} (hi : i < l.length) : fnd l (kc (rd l i)) = some (rd l i) := ZlD hn (Zu hi)
theorem ZiN {l : List V} (hn : (l.map kc).Nodup) {i : Nat} (hi : i < l.length) (k : List Int) : fnd (Zae l i) k = bif decide (kc (rd l i) = k) then none else fnd l k := by
  have hp := Ze2 hi
  rw [Zj0 hp hn k, ZfH]
  have hn' := (hp.map kc).nodup hn
  rw [List.map_cons, List.nodup_cons] at hn'
  by_cases h : kc (rd l i) = k
  · rw [decide_eq_true h]
    exact Zeb fun r hr e => hn'.1 (by rw [h, ← e]; exact List.mem_map_of_mem hr)
  · rw [decide_eq_false h]; rfl
theorem Znx {l : List V} {i : Nat} (hi : i < l.length) (x : V) : (l.set i x).Perm (x :: Zae l i) := by
  have h := Ze2 (l := l.set i x) (by rw [List.length_set]; exact hi)
  rw [Zbe hi] at h
  have e : Zae (l.set i x) i = Zae l i := by
    unfold Zae
    rw [List.take_set_of_le (Nat.le_refl _), List.drop_set_of_lt (Nat.lt_succ_self _)]
  rwa [e] at h
theorem fnd_set {l : List V} (hn : (l.map kc).Nodup) {i : Nat} (hi : i < l.length) {x : V} (hx : kc x = kc (rd l i)) (k : List Int) : fnd (l.set i x) k = bif decide (kc x = k) then some x else fnd l k := by
  have e : (l.set i x).map kc = l.map kc := by
    rw [List.map_set]
    have : kc x = (l.map kc)[i]'(by rw [List.length_map]; exact hi) := by rw [hx, List.getElem_map, ZdT hi]
    rw [this, List.set_getElem_self]
  rw [Zj0 (Znx hi x) (by rw [e]; exact hn) k, ZfH]
  by_cases h : kc x = k
  · rw [decide_eq_true h]; rfl
  · rw [decide_eq_false h]
    show fnd (Zae l i) k = fnd l k
    rw [ZiN hn hi, decide_eq_false (by rw [← hx]; exact h)]; rfl
theorem VS.ndR {x : Int} {s : SD} (h : VS x s) : (s.rows.map kc).Nodup := (List.nodup_append.1 h.nd).1
theorem VS.ndT {x : Int} {s : SD} (h : VS x s) : (s.tombs.map kc).Nodup := (List.nodup_append.1 h.nd).2.1
theorem VS.apart {x : Int} {s : SD} (h : VS x s) {r t : V} (hr : r ∈ s.rows) (ht : t ∈ s.tombs) : kc r ≠ kc t := (List.nodup_append.1 h.nd).2.2 _ (List.mem_map_of_mem hr) _ (List.mem_map_of_mem ht)
theorem VS.bury {x : Int} {s : SD} (h : VS x s) (h1 : 1 ≤ s.idx) {i : Nat} (hi : i < s.rows.length) : VS x (s.bury i) := by
  have hr := h.rows _ (Zu hi)
  have hl := h.l1
  have hT : ∀ t ∈ s.tombs ++ [Za5 (gl (rd s.rows i) 0) s.idx], Za4 (gl t 0) = true ∧ 1 ≤ gi t 1 ∧ gi t 1 ≤ s.idx ∧ s.lost ≤ gi t 1 := fun t ht => by
    rcases List.mem_append.1 ht with ht | ht
    · exact h.tombs t ht
    · rw [List.mem_singleton.1 ht]
      exact ⟨hr.1, h1, Int.le_refl _, h.l1⟩
  have hO : ((s.tombs ++ [Za5 (gl (rd s.rows i) 0) s.idx]).map fun t => gi t 1).Pairwise (· ≤ ·) := by
    rw [List.map_append, List.pairwise_append]
    refine ⟨h.ord, List.pairwise_singleton _ _, fun a ha b hb => ?_⟩
    obtain ⟨t, ht, rfl⟩ := List.mem_map.1 ha
    rw [List.map_singleton, List.mem_singleton] at hb
    subst hb
    exact (h.tombs t ht).2.2.1
  have hN : ((Zae s.rows i).map kc ++ (s.tombs ++ [Za5 (gl (rd s.rows i) 0) s.idx]).map kc).Nodup := by
    have hp : (s.rows.map kc ++ s.tombs.map kc).Perm ((Zae s.rows i).map kc ++ (s.tombs ++ [Za5 (gl (rd s.rows i) 0) s.idx]).map kc) := by
      have h1 : (s.rows.map kc).Perm (kc (rd s.rows i) :: (Zae s.rows i).map kc) := (Ze2 hi).map kc
      refine (h1.append_right _).trans ?_
      rw [List.map_append, List.map_singleton, show kc (Za5 (gl (rd s.rows i) 0) s.idx) = kc (rd s.rows i) from rfl, ← List.append_assoc]
      exact (List.perm_append_singleton _ _).symm
    exact hp.nodup h.nd
  have hW : ∀ t ∈ s.tombs ++ [Za5 (gl (rd s.rows i) 0) s.idx], LW ZS (gl t 0) := fun t ht => by
    rcases List.mem_append.1 ht with ht | ht
    · exact h.wt t ht
    · rw [List.mem_singleton.1 ht]; exact (h.wr _ (Zu hi)).1
  have hlen : (s.tombs ++ [Za5 (gl (rd s.rows i) 0) s.idx]).length = s.tombs.length + 1 := by rw [List.length_append, List.length_singleton]
  have hrl := Zcz hi
  have hnr := h.nr
  unfold SD.bury
  by_cases hd : 10 < s.tombs.length + 1
  · rw [decide_eq_true hd]
    generalize s.tombs ++ [Za5 (gl (rd s.rows i) 0) s.idx] = T at *
    have hnt := h.nt
    cases T with
    | nil => simp at hlen
    | cons t0 T =>
      have e0 : rd (t0 :: T) 0 = t0 := rfl
      have hT0 := hT t0 (List.mem_cons_self ..)
      have hO' := List.pairwise_cons.1 (show (gi t0 1 :: T.map fun t => gi t 1).Pairwise (· ≤ ·) from hO)
      have l0 := h.l0
      refine ⟨h.i0, h.i1, ?_, ?_, by show (Zae s.rows i).length ≤ 20; omega, ?_, h.ns, h.nl, fun r hr => h.rows r (Zb9 hr), fun r hr => h.hold r (Zb9 hr), Asc.rm (R := fun a b => nlt (gl a 0) (gl b 0) = true) h.asc hi asc_tr, fun t ht => ?_, hO'.2, ?_, h.sess, h.sasc, h.lasts, h.lasc, fun r hr => h.wr r (Zb9 hr), fun t ht => hW t (List.mem_cons_of_mem _ ht)⟩
      · show 0 ≤ gi (rd (t0 :: T) 0) 1; rw [e0]; omega
      · show gi (rd (t0 :: T) 0) 1 ≤ s.idx; rw [e0]; omega
      · show T.length ≤ 10; rw [List.length_cons] at hlen; omega
      · have ht : t ∈ T := ht
        have := hT t (List.mem_cons_of_mem _ ht)
        refine ⟨this.1, this.2.1, this.2.2.1, ?_⟩
        show gi (rd (t0 :: T) 0) 1 ≤ gi t 1
        rw [e0]; exact hO'.1 _ (List.mem_map_of_mem ht)
      · show ((Zae s.rows i).map kc ++ T.map kc).Nodup
        rw [List.nodup_append] at hN ⊢
        refine ⟨hN.1, (List.nodup_cons.1 (show (kc t0 :: T.map kc).Nodup from hN.2.1)).2, fun a ha b hb => hN.2.2 a ha b (List.mem_cons_of_mem _ hb)⟩
  · rw [decide_eq_false hd]
    exact ⟨h.i0, h.i1, h.l0, h.l1, by show (Zae s.rows i).length ≤ 20; omega, by show (s.tombs ++ [_]).length ≤ 10; omega, h.ns, h.nl, fun r hr => h.rows r (Zb9 hr), fun r hr => h.hold r (Zb9 hr), Asc.rm (R := fun a b => nlt (gl a 0) (gl b 0) = true) h.asc hi asc_tr, hT, hO, hN, h.sess, h.sasc, h.lasts, h.lasc, fun r hr => h.wr r (Zb9 hr), hW⟩
theorem VS.setRow {x : Int} {s : SD} (h : VS x s) {j : Nat} (hj : j < s.rows.length) {v : List V} {t o : Int} (hv : v.length ≤ 20) (hw : LW ZS v) (ht : 1 ≤ t ∧ t ≤ s.idx) (ho : o = 0 ∨ o = x ∨ ∃ y ∈ s.sess, gi y 0 = o) :
    VS x { s with rows := s.rows.set j (ZU (gl (rd s.rows j) 0) v t o) } := by
  have hr := h.rows _ (Zu hj)
  have hwj := h.wr _ (Zu hj)
  refine ⟨h.i0, h.i1, h.l0, h.l1, by show (s.rows.set j _).length ≤ 20; rw [List.length_set]; exact h.nr, h.nt, h.ns, h.nl, fun r hr' => ?_, fun r hr' => ?_, ?_, h.tombs, h.ord, ?_, h.sess, h.sasc, h.lasts, h.lasc, fun r hr' => ?_, h.wt⟩
  · rcases List.mem_or_eq_of_mem_set hr' with hr' | hr'
    · exact h.rows r hr'
    · subst hr'; exact ⟨hr.1, hv, ht.1, ht.2⟩
  · rcases List.mem_or_eq_of_mem_set hr' with hr' | hr'
    · exact h.hold r hr'
    · subst hr'; exact ho
  · exact Asc.set (R := fun a b => nlt (gl a 0) (gl b 0) = true) h.asc (fun a ha => ha) (fun a ha => ha)
  · show ((s.rows.set j (ZU (gl (rd s.rows j) 0) v t o)).map kc ++ s.tombs.map kc).Nodup
    have e : (s.rows.set j (ZU (gl (rd s.rows j) 0) v t o)).map kc = s.rows.map kc := by
      rw [List.map_set]
      have : kc (ZU (gl (rd s.rows j) 0) v t o) = (s.rows.map kc)[j]'(by rw [List.length_map]; exact hj) := by rw [List.getElem_map, ← ZdT hj]; rfl
      rw [this, List.set_getElem_self]
    rw [e]; exact h.nd
  · rcases List.mem_or_eq_of_mem_set hr' with hr' | hr'
    · exact h.wr r hr'
    · subst hr'; exact ⟨hwj.1, hw⟩
end Go.Eng.R
open Go Go.Eng
namespace Go.Eng.R
set_option maxRecDepth 100000
theorem VS.shutL {id : Int} (h0 : id ≠ 0) (del : Bool) : ∀ (n k : Nat) (s : SD), VS id s → 1 ≤ s.idx → (∀ i, i < k → i < s.rows.length → gi (rd s.rows i) 3 ≠ id) → s.rows.length ≤ n + k →
    VS id (SD.shutL id del n k s) ∧ (∀ r ∈ (SD.shutL id del n k s).rows, gi r 3 ≠ id)
  | 0, k, s, h, h1, hk, hn => ⟨h, fun r hr => by
      obtain ⟨i, hi, rfl⟩ := ZbB hr
      have hi : i < s.rows.length := hi
      exact hk i (by omega) hi⟩
  | n + 1, k, s, h, h1, hk, hn => by
    rw [SD.shutL]
    by_cases hlt : k < s.rows.length
    case neg =>
      rw [dF hlt]
      exact ⟨h, fun r hr => by obtain ⟨i, hi, rfl⟩ := ZbB hr; have hi : i < s.rows.length := hi; exact hk i (by omega) hi⟩
    rw [dT hlt]
    by_cases hh : gi (rd s.rows k) 3 = id
    case neg =>
      rw [dF hh]
      refine VS.shutL h0 del n (k + 1) s h h1 (fun i hi hi2 => ?_) (by omega)
      rcases Nat.lt_or_ge i k with c | c
      · exact hk i c hi2
      · obtain rfl : i = k := by omega
        exact hh
    rw [dT hh]
    cases del with
    | true =>
      simp only [Bool.not_true, cond_false, cond_true]
      have hl := (Zh0 hlt h.nt).1
      have hi' : (s.bury k).idx = s.idx := by unfold SD.bury; cases decide (10 < s.tombs.length + 1) <;> rfl
      have hr' : (s.bury k).rows = Zae s.rows k := by unfold SD.bury; cases decide (10 < s.tombs.length + 1) <;> rfl
      refine VS.shutL h0 true n k (s.bury k) (h.bury h1 hlt) (by omega) (fun i hi hi2 => ?_) (by omega)
      rw [hr', rdRm (Nat.le_of_lt hlt), if_pos hi]
      exact hk i hi (by omega)
    | false =>
      simp only [Bool.not_true, cond_false]
      have hr := h.rows _ (Zu hlt)
      refine VS.shutL h0 false n (k + 1) _ (h.setRow hlt hr.2.1 (h.wr _ (Zu hlt)).2 ⟨h1, Int.le_refl _⟩ (.inl rfl)) h1 (fun i hi hi2 => ?_) (by show (s.rows.set k _).length ≤ _; rw [List.length_set]; omega)
      show gi (rd (s.rows.set k _) i) 3 ≠ id
      by_cases c : i = k
      · subst c; rw [Zbe hlt]; exact fun e => h0 e.symm
      · rw [ZdM c]; exact hk i (by omega) (by have : (s.rows.set k (ZU (gl (rd s.rows k) 0) (gl (rd s.rows k) 1) s.idx 0)).length = _ := List.length_set; omega)
theorem Zf2 (id : Int) (del : Bool) : ∀ (n k : Nat) (s : SD), (SD.shutL id del n k s).idx = s.idx
  | 0, _, _ => rfl
  | n + 1, k, s => by
    rw [SD.shutL]
    cases decide (k < s.rows.length) with
    | false => rfl
    | true =>
      cases decide (gi (rd s.rows k) 3 = id) with
      | false => exact Zf2 id del n (k + 1) s
      | true =>
        cases del with
        | true => exact (Zf2 id true n k (s.bury k)).trans (by unfold SD.bury; cases decide (10 < s.tombs.length + 1) <;> rfl)
        | false => exact Zf2 id false n (k + 1) _
theorem Zgi (id : Int) (del : Bool) : ∀ (n k : Nat) (s : SD), (SD.shutL id del n k s).sess = s.sess
  | 0, _, _ => rfl
  | n + 1, k, s => by
    rw [SD.shutL]
    cases decide (k < s.rows.length) with
    | false => rfl
    | true =>
      cases decide (gi (rd s.rows k) 3 = id) with
      | false => exact Zgi id del n (k + 1) s
      | true =>
        cases del with
        | true => exact (Zgi id true n k (s.bury k)).trans (by unfold SD.bury; cases decide (10 < s.tombs.length + 1) <;> rfl)
        | false => exact Zgi id false n (k + 1) _
theorem VS.lose {s : SD} (h : VS 0 s) {i : Nat} (hi : i < s.sess.length) : VS (gi (rd s.sess i) 0) { s with sess := Zae s.sess i } := by
  have hn := h.ns
  refine ⟨h.i0, h.i1, h.l0, h.l1, h.nr, h.nt, by show (Zae s.sess i).length ≤ 8; rw [Zcz hi]; omega, h.nl, h.rows, fun r hr => ?_, h.asc, h.tombs, h.ord, h.nd, fun y hy => h.sess y (Zb9 hy), Asc.rm (R := fun a b => gi a 0 < gi b 0) h.sasc hi (fun _ _ _ a b => Int.lt_trans a b), h.lasts, h.lasc, h.wr, h.wt⟩
  rcases h.hold r hr with e | e | ⟨y, hy, e⟩
  · exact .inl e
  · exact .inl e
  · rcases List.mem_cons.1 ((Ze2 hi).mem_iff.1 hy) with rfl | hy
    · exact .inr (.inl e.symm)
    · exact .inr (.inr ⟨y, hy, e⟩)
theorem VS.keep {x : Int} {s : SD} (h : VS x s) (hr : ∀ r ∈ s.rows, gi r 3 ≠ x) : VS 0 s :=
  ⟨h.i0, h.i1, h.l0, h.l1, h.nr, h.nt, h.ns, h.nl, h.rows, fun r hr' => by
    rcases h.hold r hr' with e | e | e
    · exact .inl e
    · exact absurd e (hr r hr')
    · exact .inr (.inr e), h.asc, h.tombs, h.ord, h.nd, h.sess, h.sasc, h.lasts, h.lasc, h.wr, h.wt⟩
theorem VS.shut {s : SD} (h : VS 0 s) (h1 : 1 ≤ s.idx) {i : Nat} (hi : i < s.sess.length) : VS 0 (s.shut i) ∧ (∀ r ∈ (s.shut i).rows, gi r 3 ≠ gi (rd s.sess i) 0) ∧ (s.shut i).sess = Zae s.sess i := by
  have hid := h.sess _ (Zu hi)
  obtain ⟨a, b⟩ := VS.shutL (id := gi (rd s.sess i) 0) (by omega) (gb (rd s.sess i) 1) s.rows.length 0 _ (h.lose hi) h1 (fun i hi => absurd hi (Nat.not_lt_zero _)) (Nat.le_refl _)
  exact ⟨a.keep b, b, Zgi _ _ _ _ _⟩
structure OpV (k : Int) (ky vl : List V) (n : Int) : Prop where
  kk : 0 ≤ k ∧ k ≤ 7
  key : opK k → Za4 ky = true
  nk : ¬ opK k → ky.length = 0
  val : vl.length ≤ 20
  wk : LW ZS ky
  wv : LW ZS vl
def CmdV (c : V) : Prop := gi c 0 < 0 ∨ (0 ≤ gi c 0 ∧ gi c 0 ≤ 3 ∧ 1 ≤ gi c 1 ∧ gi c 1 ≤ 1000000 ∧ OpV (gi c 2) (gl c 3) (gl c 4) (gi c 5))
theorem VS.up {s : SD} (h : VS 0 s) (hi : s.idx < 1000000) : VS 0 s.up := by
  have e : s.up.idx = s.idx + 1 := rfl
  have i0 := h.i0
  have l1 := h.l1
  refine ⟨by omega, by omega, h.l0, by show s.lost ≤ s.idx + 1; omega, h.nr, h.nt, h.ns, h.nl, fun r hr => ?_, h.hold, h.asc, fun t ht => ?_, h.ord, h.nd, fun y hy => ?_, h.sasc, fun l hl => ?_, h.lasc, h.wr, h.wt⟩
  · obtain ⟨a, b, c, d⟩ := h.rows r hr; exact ⟨a, b, c, by omega⟩
  · obtain ⟨a, b, c, d⟩ := h.tombs t ht; exact ⟨a, b, by omega, d⟩
  · obtain ⟨a, b⟩ := h.sess y hy; exact ⟨a, by omega⟩
  · obtain ⟨a1, a2, a3, a4, a5, a6, a7, a8⟩ := h.lasts l hl; exact ⟨a1, a2, a3, a4, a5, a6, a7, by omega⟩
theorem VS.withLasts {s : SD} (h : VS 0 s) {l : List V} (h1 : ∀ x ∈ l, 0 ≤ gi x 0 ∧ gi x 0 ≤ 3 ∧ 1 ≤ gi x 1 ∧ gi x 1 ≤ 1000000 ∧ 0 ≤ gi x 2 ∧ gi x 2 ≤ 5 ∧ 1 ≤ gi x 3 ∧ gi x 3 ≤ s.idx) (h2 : AscI l) : VS 0 { s with lasts := l } :=
  ⟨h.i0, h.i1, h.l0, h.l1, h.nr, h.nt, h.ns, ascI_few h2 fun x hx => ⟨(h1 x hx).1, (h1 x hx).2.1⟩, h.rows, h.hold, h.asc, h.tombs, h.ord, h.nd, h.sess, h.sasc, h1, h2, h.wr, h.wt⟩
end Go.Eng.R
open Go Go.Eng
namespace Go.Eng.R
set_option maxRecDepth 100000
def SD.view (s : SD) (k : List Int) : Int × Bool × List V := match fnd s.rows k with
  | some r => (gi r 2, true, gl r 1)
  | none => match fnd s.tombs k with | some t => (gi t 1, false, []) | none => (s.lost, false, [])
theorem ZcA {s : SD} {k : List Int} {r : V} (h : fnd s.rows k = some r) : s.view k = (gi r 2, true, gl r 1) := by unfold SD.view; rw [h]
theorem Zdl {s : SD} {k : List Int} {t : V} (h : fnd s.rows k = none) (h2 : fnd s.tombs k = some t) : s.view k = (gi t 1, false, []) := by unfold SD.view; rw [h, h2]
theorem Zgm {s : SD} {k : List Int} (h : fnd s.rows k = none) (h2 : fnd s.tombs k = none) : s.view k = (s.lost, false, []) := by unfold SD.view; rw [h, h2]
theorem Zp8 {s : SD} {k : List Int} (h : fnd s.rows k = none) : (s.view k).2 = (false, []) := by
  unfold SD.view; rw [h]; cases fnd s.tombs k <;> rfl
theorem Zji {x : Int} {s : SD} (h : VS x s) (k : List Int) : (s.view k).1 ≤ s.idx := by
  unfold SD.view
  cases hr : fnd s.rows k with
  | some r => exact (h.rows r (Zec hr).1).2.2.2
  | none =>
    cases ht : fnd s.tombs k with
    | some t => exact (h.tombs t (Zec ht).1).2.2.1
    | none => exact h.l1
def Tr (n : Int) (a b : Int × Bool × List V) : Prop := b = a ∨ b.1 = n ∨ (a.2 = (false, []) ∧ b.2 = (false, []) ∧ a.1 ≤ b.1)
theorem Tr.trans {n : Int} {a b c : Int × Bool × List V} (h1 : Tr n a b) (h2 : Tr n b c) (hc : c.1 ≤ n) : Tr n a c := by
  rcases h2 with rfl | h2 | ⟨e1, e2, h2⟩
  · exact h1
  · exact .inr (.inl h2)
  · rcases h1 with rfl | h1 | ⟨f1, f2, h1⟩
    · exact .inr (.inr ⟨e1, e2, h2⟩)
    · exact .inr (.inl (by omega))
    · exact .inr (.inr ⟨f1, e2, by omega⟩)
theorem ZiP (s : SD) (i : Nat) : (s.bury i).rows = Zae s.rows i := by unfold SD.bury; cases decide (10 < s.tombs.length + 1) <;> rfl
theorem Zj1 (s : SD) (i : Nat) : (s.bury i).idx = s.idx := by unfold SD.bury; cases decide (10 < s.tombs.length + 1) <;> rfl
theorem Znz {l : List V} {x : V} {k : List Int} (h : ∀ r ∈ l, kc r ≠ kc x) : fnd (l ++ [x]) k = bif decide (kc x = k) then some x else fnd l k := by
  unfold fnd
  rw [List.find?_append]
  by_cases e : kc x = k
  · rw [decide_eq_true e]
    have : l.find? (fun x => decide (kc x = k)) = none := Zeb fun r hr => by rw [← e]; exact h r hr
    rw [this, List.find?_cons, decide_eq_true e]; rfl
  · rw [decide_eq_false e, List.find?_cons, decide_eq_false e]
    cases l.find? (fun x => decide (kc x = k)) <;> rfl
theorem ZgZ {x : Int} {s : SD} (h : VS x s) {i : Nat} (hi : i < s.rows.length) (k : List Int) :
    (kc (rd s.rows i) = k → (s.bury i).view k = (s.idx, false, [])) ∧ (kc (rd s.rows i) ≠ k → Tr s.idx (s.view k) ((s.bury i).view k)) := by
  have hap : ∀ r ∈ s.tombs, kc r ≠ kc (Za5 (gl (rd s.rows i) 0) s.idx) := fun t ht e => h.apart (Zu hi) ht e.symm
  have hfT : ∀ k, fnd (s.tombs ++ [Za5 (gl (rd s.rows i) 0) s.idx]) k = bif decide (kc (rd s.rows i) = k) then some (Za5 (gl (rd s.rows i) 0) s.idx) else fnd s.tombs k := fun k => Znz hap
  have hfR : fnd (s.bury i).rows k = bif decide (kc (rd s.rows i) = k) then none else fnd s.rows k := by rw [ZiP]; exact ZiN h.ndR hi k
  have hnT : ((s.tombs ++ [Za5 (gl (rd s.rows i) 0) s.idx]).map kc).Nodup := by
    rw [List.map_append, List.map_singleton, List.nodup_append]
    refine ⟨h.ndT, by simp, fun a ha b hb e => ?_⟩
    obtain ⟨t, ht, rfl⟩ := List.mem_map.1 ha
    rw [List.mem_singleton.1 hb] at e
    exact hap t ht e
  by_cases hd : 10 < s.tombs.length + 1
  · have e1 : (s.bury i).tombs = (s.tombs ++ [Za5 (gl (rd s.rows i) 0) s.idx]).drop 1 := by unfold SD.bury; rw [decide_eq_true hd]; rfl
    have e2 : (s.bury i).lost = gi (rd (s.tombs ++ [Za5 (gl (rd s.rows i) 0) s.idx]) 0) 1 := by unfold SD.bury; rw [decide_eq_true hd]; rfl
    cases hT : s.tombs with
    | nil => rw [hT] at hd; simp at hd
    | cons t0 T =>
      rw [hT] at hfT e1 e2 hnT hap
      have e1 : (s.bury i).tombs = T ++ [Za5 (gl (rd s.rows i) 0) s.idx] := e1
      have e2 : (s.bury i).lost = gi t0 1 := e2
      have hfc : ∀ k, fnd ((t0 :: T) ++ [Za5 (gl (rd s.rows i) 0) s.idx]) k = bif decide (kc t0 = k) then some t0 else fnd (T ++ [Za5 (gl (rd s.rows i) 0) s.idx]) k := fun k => ZfH t0 _ k
      have hn0 : ∀ r ∈ T ++ [Za5 (gl (rd s.rows i) 0) s.idx], kc r ≠ kc t0 := fun r hr e => (List.nodup_cons.1 (show (kc t0 :: (T ++ [Za5 (gl (rd s.rows i) 0) s.idx]).map kc).Nodup from hnT)).1 (by rw [← e]; exact List.mem_map_of_mem hr)
      refine ⟨fun hk => ?_, fun hk => ?_⟩
      · rw [decide_eq_true hk] at hfR
        have h3 := hfT k
        rw [hfc k, decide_eq_true hk, decide_eq_false (fun e => hap t0 (List.mem_cons_self ..) (by rw [e]; exact hk.symm))] at h3
        rw [Zdl hfR (by rw [e1]; exact h3)]; rfl
      · rw [decide_eq_false hk] at hfR
        have hfR : fnd (s.bury i).rows k = fnd s.rows k := hfR
        have h3 := hfT k
        rw [hfc k, decide_eq_false hk] at h3
        have h3 : (bif decide (kc t0 = k) then some t0 else fnd (T ++ [Za5 (gl (rd s.rows i) 0) s.idx]) k) = fnd (t0 :: T) k := h3
        cases hr : fnd s.rows k with
        | some r => rw [ZcA hr, ZcA (hfR.trans hr)]; exact .inl rfl
        | none =>
          rw [hr] at hfR
          by_cases h0 : kc t0 = k
          · rw [decide_eq_true h0] at h3
            have h4 : fnd (T ++ [Za5 (gl (rd s.rows i) 0) s.idx]) k = none := Zeb fun r hr => by rw [← h0]; exact hn0 r hr
            rw [Zgm hfR (by rw [e1]; exact h4), e2, Zdl hr (by rw [hT]; exact h3.symm)]; exact .inl rfl
          · rw [decide_eq_false h0] at h3
            have h3 : fnd (T ++ [Za5 (gl (rd s.rows i) 0) s.idx]) k = fnd (t0 :: T) k := h3
            cases ht : fnd (t0 :: T) k with
            | some t => rw [Zdl hfR (by rw [e1, h3]; exact ht), Zdl hr (by rw [hT]; exact ht)]; exact .inl rfl
            | none =>
              rw [Zgm hfR (by rw [e1, h3]; exact ht), Zgm hr (by rw [hT]; exact ht), e2]
              exact .inr (.inr ⟨rfl, rfl, (h.tombs t0 (by rw [hT]; exact List.mem_cons_self ..)).2.2.2⟩)
  · have e1 : (s.bury i).tombs = s.tombs ++ [Za5 (gl (rd s.rows i) 0) s.idx] := by unfold SD.bury; rw [decide_eq_false hd]; rfl
    have e2 : (s.bury i).lost = s.lost := by unfold SD.bury; rw [decide_eq_false hd]; rfl
    have h3 := hfT k
    rw [← e1] at h3
    refine ⟨fun hk => ?_, fun hk => ?_⟩
    · rw [decide_eq_true hk] at hfR h3
      rw [Zdl hfR h3]; rfl
    · rw [decide_eq_false hk] at hfR h3
      refine .inl ?_
      unfold SD.view
      rw [show fnd (s.bury i).rows k = fnd s.rows k from hfR, show fnd (s.bury i).tombs k = fnd s.tombs k from h3, e2]
theorem Zdt {x : Int} {s : SD} (h : VS x s) {j : Nat} (hj : j < s.rows.length) (v : List V) (t o : Int) (k : List Int) :
    fnd (s.rows.set j (ZU (gl (rd s.rows j) 0) v t o)) k = bif decide (kc (rd s.rows j) = k) then some (ZU (gl (rd s.rows j) 0) v t o) else fnd s.rows k := fnd_set h.ndR hj (x := ZU (gl (rd s.rows j) 0) v t o) rfl k
theorem Zex {x : Int} {s : SD} (h : VS x s) {j : Nat} (hj : j < s.rows.length) (v : List V) (t o : Int) (k : List Int) :
    ({ s with rows := s.rows.set j (ZU (gl (rd s.rows j) 0) v t o) } : SD).view k = bif decide (kc (rd s.rows j) = k) then (t, true, v) else s.view k := by
  have e := Zdt h hj v t o k
  by_cases hk : kc (rd s.rows j) = k
  · rw [decide_eq_true hk] at e ⊢
    exact ZcA (s := { s with rows := s.rows.set j (ZU (gl (rd s.rows j) 0) v t o) }) e
  · rw [decide_eq_false hk] at e ⊢
    unfold SD.view
    rw [show fnd ({ s with rows := s.rows.set j (ZU (gl (rd s.rows j) 0) v t o) } : SD).rows k = fnd s.rows k from e]; rfl
theorem ZeT {l key : List V} {j : Nat} (h : Zr (fun i => neq (gl (rd l i) 0) key) 0 l.length = some j) : kc (rd l j) = Zq key := by
  have h2 : neq (gl (rd l j) 0) key = true := (ZX h).2.2.1
  rw [ZcT] at h2
  exact of_decide_eq_true h2
theorem Zeq {l key : List V} (h : Zr (fun i => neq (gl (rd l i) 0) key) 0 l.length = none) : ∀ r ∈ l, kc r ≠ Zq key := fun r hr e => by
  obtain ⟨i, hi, rfl⟩ := ZbB hr
  have h9 : neq (gl (rd l i) 0) key = false := firstI_none.1 h i (Nat.zero_le _) (by omega)
  rw [ZcT, decide_eq_true (show Zq (gl (rd l i) 0) = Zq key from e)] at h9; cases h9
theorem ZgJ {id : Int} (h0 : id ≠ 0) (del : Bool) : ∀ (n k : Nat) (s : SD), VS id s → 1 ≤ s.idx → ∀ q, Tr s.idx (s.view q) ((SD.shutL id del n k s).view q) ∧ ((SD.shutL id del n k s).view q).1 ≤ s.idx
  | 0, k, s, h, h1, q => ⟨.inl rfl, Zji h q⟩
  | n + 1, k, s, h, h1, q => by
    rw [SD.shutL]
    by_cases hlt : k < s.rows.length
    case neg => rw [dF hlt]; exact ⟨.inl rfl, Zji h q⟩
    rw [dT hlt]
    by_cases hh : gi (rd s.rows k) 3 = id
    case neg => rw [dF hh]; exact ZgJ h0 del n (k + 1) s h h1 q
    rw [dT hh]
    cases del with
    | true =>
      simp only [Bool.not_true, cond_false, cond_true]
      have hb := h.bury h1 hlt
      have e := Zj1 s k
      obtain ⟨a, b⟩ := ZgJ h0 true n k (s.bury k) hb (by omega) q
      rw [e] at a b
      refine ⟨?_, b⟩
      obtain ⟨v1, v2⟩ := ZgZ h hlt q
      by_cases hk : kc (rd s.rows k) = q
      · have v1 := v1 hk
        have : Tr s.idx (s.view q) ((s.bury k).view q) := .inr (.inl (by rw [v1]))
        exact Tr.trans this a b
      · exact Tr.trans (v2 hk) a b
    | false =>
      simp only [Bool.not_true, cond_false]
      have hr := h.rows _ (Zu hlt)
      have hs := h.setRow hlt hr.2.1 (h.wr _ (Zu hlt)).2 ⟨h1, Int.le_refl _⟩ (.inl rfl)
      obtain ⟨a, b⟩ := ZgJ h0 false n (k + 1) _ hs h1 q
      refine ⟨?_, b⟩
      have e := Zex h hlt (gl (rd s.rows k) 1) s.idx 0 q
      have : Tr s.idx (s.view q) (({ s with rows := s.rows.set k (ZU (gl (rd s.rows k) 0) (gl (rd s.rows k) 1) s.idx 0) } : SD).view q) := by
        rw [e]
        by_cases hk : kc (rd s.rows k) = q
        · rw [decide_eq_true hk]; exact .inr (.inl rfl)
        · rw [decide_eq_false hk]; exact .inl rfl
      exact Tr.trans this a b
end Go.Eng.R
open Go Go.Eng
namespace Go.Eng.R
def opB (k : Int) (key : Bool) (nk nv : Nat) (n : Int) : Bool :=
  decide (nv ≤ 20) && (decide (0 ≤ n ∧ n ≤ 1000000) &&
    (bif decide (k = 1 ∨ k = 2 ∨ k = 3 ∨ k = 6 ∨ k = 7) then key else decide (nk = 0)) &&
    ((bif decide (k = 1 ∨ k = 2 ∨ k = 6) then true else decide (nv = 0)) &&
    ((bif decide (k = 0 ∨ k = 1 ∨ k = 3) then decide (n = 0) else bif decide (k = 4) then decide (n ≤ 1) else bif decide (k = 2) then true else decide (1 ≤ n)) && decide (0 ≤ k ∧ k ≤ 7))))
theorem ZnA {o : V} (ho : W_Op o) : ZgW o = some (opB (gi o 0) (Za4 (gl o 1)) (gl o 1).length (gl o 2).length (gi o 3)) := by
  unfold ZgW
  rw [ZeH ho.2.1]
  simp only [Zd8, Zcw, Option.bind_some]
  generalize gi o 0 = k
  generalize Za4 (gl o 1) = key
  generalize (gl o 1).length = nk
  generalize (gl o 2).length = nv
  generalize gi o 3 = n
  by_cases hk : 0 ≤ k ∧ k ≤ 7
  · obtain rfl | rfl | rfl | rfl | rfl | rfl | rfl | rfl : k = 0 ∨ k = 1 ∨ k = 2 ∨ k = 3 ∨ k = 4 ∨ k = 5 ∨ k = 6 ∨ k = 7 := by omega
    all_goals (cases key <;> simp [opB, Bool.cond_eq_ite] <;> (repeat' split) <;> simp_all <;> first | omega | (rw [Bool.eq_iff_iff]; simp; omega))
  · have hh : decide (0 ≤ k ∧ k ≤ 7) = false := by simpa using hk
    have h0 : decide (k = 0) = false := by simp; omega
    have h1 : decide (k = 1) = false := by simp; omega
    have h2 : decide (k = 2) = false := by simp; omega
    have h3 : decide (k = 3) = false := by simp; omega
    have h4 : decide (k = 4) = false := by simp; omega
    have h5 : decide (k = 5) = false := by simp; omega
    have h6 : decide (k = 6) = false := by simp; omega
    have h7 : decide (k = 7) = false := by simp; omega
    simp only [opB, hh, h0, h1, h2, h3, h4, h5, h6, h7, cond_false, Bool.and_false]
def ZbC (c : V) : Bool :=
  bif decide (gi c 0 = -1) then decide (gi c 1 = 0) && (decide (gi c 2 = 0) && opB (gi c 2) (Za4 (gl c 3)) (gl c 3).length (gl c 4).length (gi c 5))
  else decide (0 ≤ gi c 0 ∧ gi c 0 ≤ 3) && (decide (1 ≤ gi c 1 ∧ gi c 1 ≤ 1000000) && opB (gi c 2) (Za4 (gl c 3)) (gl c 3).length (gl c 4).length (gi c 5))
theorem Zpm (l : List V) : Zbx (l.map Zay) [] = decide (l.length = 0) := by cases l <;> simp [Zbx]
theorem ZlE (c : V) : ZeF (Zn c) (Zn ZgV) = (decide (gi c 0 = -1) && (decide (gi c 1 = 0) && (decide (gi c 2 = 0) && (decide ((gl c 3).length = 0) && (decide ((gl c 4).length = 0) && decide (gi c 5 = 0)))))) := by
  simp only [ZeF, ZgF, ZgV, Zn, ZkW, ZkY, ZkX, ZkZ, Zew, List.map_nil, Zpm]
  by_cases h0 : gi c 0 = -1 <;> by_cases h1 : gi c 1 = 0 <;> by_cases h2 : gi c 2 = 0 <;> by_cases h3 : (gl c 3).length = 0 <;> by_cases h4 : (gl c 4).length = 0 <;> simp [h0, h1, h2, h3, h4] <;> rfl
theorem Zia {c : V} (hc : Zfn c) : Zem c = some (ZbC c) := by
  unfold Zem
  rw [ZnA (o := V.agg [(V.int .i64 (gi c 2)), (V.inl Zc (gl c 3)), (V.inl Zc (gl c 4)), (V.int .i64 (gi c 5))]) hc.2.2, ZlE]
  simp only [Option.bind_some, ZkW, ZkY, ZkX, ZkZ, ZbC, Zd8]
  by_cases h1 : gi c 0 = -1
  · simp only [h1, decide_true, cond_true, Bool.true_and]
    rw [show decide (0 ≤ (-1 : Int) ∧ (-1 : Int) ≤ 3) = false from rfl]
    by_cases h2 : gi c 1 = 0 <;> by_cases h3 : gi c 2 = 0 <;> simp only [h2, h3, decide_true, decide_false, Bool.true_and, Bool.false_and, cond_false]
    simp only [opB]
    by_cases a3 : (gl c 3).length = 0 <;> by_cases a4 : (gl c 4).length = 0 <;> by_cases a5 : gi c 5 = 0 <;> simp [a3, a4, a5]
  · simp only [h1, decide_false, cond_false, Bool.false_and]
    generalize opB _ _ _ _ _ = z
    by_cases h2 : 0 ≤ gi c 0 ∧ gi c 0 ≤ 3 <;> by_cases h3 : 1 ≤ gi c 1 ∧ gi c 1 ≤ 1000000 <;> simp [h2, h3]
end Go.Eng.R
open Go Go.Eng
namespace Go.Eng.R
set_option maxRecDepth 100000
structure Eqv (a b : SD) : Prop where
  idx : a.idx = b.idx
  lost : a.lost = b.lost
  sess : a.sess = b.sess
  lasts : a.lasts = b.lasts
  rows : SameL RowE a.rows b.rows
  tombs : SameL TombE a.tombs b.tombs
theorem SameL.mem {E : V → V → Prop} {l l' : List V} (h : SameL E l l') {r : V} (hr : r ∈ l) : ∃ r' ∈ l', E r r' := by
  obtain ⟨i, hi, rfl⟩ := ZbB hr
  have hi' : i < l'.length := by rw [← h.1]; exact hi
  exact ⟨_, Zu hi', h.2 i hi'⟩
theorem SameL.map {β : Type} {E : V → V → Prop} {f : V → β} (hf : ∀ a b, E a b → f a = f b) {l l' : List V} (h : SameL E l l') : l.map f = l'.map f := by
  refine List.ext_getElem (by rw [List.length_map, List.length_map]; exact h.1) fun i h1 h2 => ?_
  rw [List.getElem_map, List.getElem_map]
  rw [List.length_map] at h1 h2
  have := hf _ _ (h.2 i h2)
  rwa [ZdT h1, ZdT h2] at this
theorem RowE.kc {a b : V} (h : RowE a b) : kc a = kc b := by unfold R.kc; rw [h.1]
theorem TombE.kc {a b : V} (h : TombE a b) : kc a = kc b := by unfold R.kc; rw [h.1]
theorem VS.eqv {x : Int} {a b : SD} (h : VS x b) (e : Eqv a b) : VS x a := by
  have k1 : a.rows.map kc = b.rows.map kc := e.rows.map fun _ _ h => h.kc
  have k2 : a.tombs.map kc = b.tombs.map kc := e.tombs.map fun _ _ h => h.kc
  have k3 : (a.tombs.map fun t => gi t 1) = b.tombs.map fun t => gi t 1 := e.tombs.map fun _ _ h => h.2
  refine ⟨by rw [e.idx]; exact h.i0, by rw [e.idx]; exact h.i1, by rw [e.lost]; exact h.l0, by rw [e.lost, e.idx]; exact h.l1, by rw [e.rows.1]; exact h.nr, by rw [e.tombs.1]; exact h.nt, by rw [e.sess]; exact h.ns, by rw [e.lasts]; exact h.nl, fun r hr => ?_, fun r hr => ?_, e.rows.asc h.asc, fun t ht => ?_, by rw [k3]; exact h.ord, by rw [k1, k2]; exact h.nd, by rw [e.sess, e.idx]; exact h.sess, by rw [e.sess]; exact h.sasc, by rw [e.lasts, e.idx]; exact h.lasts, by rw [e.lasts]; exact h.lasc, fun r hr => ?_, fun t ht => ?_⟩
  · obtain ⟨r', hr', q1, q2, q3, q4⟩ := e.rows.mem hr
    rw [q1, q2, q3, e.idx]; exact h.rows r' hr'
  · obtain ⟨r', hr', q1, q2, q3, q4⟩ := e.rows.mem hr
    rw [q4, e.sess]; exact h.hold r' hr'
  · obtain ⟨t', ht', q1, q2⟩ := e.tombs.mem ht
    rw [q1, q2, e.idx, e.lost]; exact h.tombs t' ht'
  · obtain ⟨r', hr', q1, q2, q3, q4⟩ := e.rows.mem hr
    rw [q1, q2]; exact h.wr r' hr'
  · obtain ⟨t', ht', q1, q2⟩ := e.tombs.mem ht
    rw [q1]; exact h.wt t' ht'
theorem own_eqN {s : SD} (h : VS 0 s) : ∃ a, Eqv a s ∧ ((∀ r ∈ a.rows, nrow r = r) ∧ (∀ t ∈ a.tombs, Zjg t = t)) ∧ Zcp (Za s.v) = some a.v := by
  have n1 := h.nr; have n2 := h.nt; have n3 := h.ns; have n4 := h.nl
  obtain ⟨R, T, e, hR, hT, hN⟩ := own_O (s := s.v) (show s.rows.length ≤ 1000 by omega) (show s.tombs.length ≤ 1000 by omega) (show s.sess.length ≤ 1000 by omega) (show s.lasts.length ≤ 1000 by omega) (fun j hj => by
    have := h.rows _ (Zu (show j < s.rows.length from hj))
    have h1 := ZjY this.1
    have h2 := this.2.1
    exact ⟨by show (gl (rd s.rows j) 0).length ≤ 1000; omega, by show (gl (rd s.rows j) 1).length ≤ 1000; omega⟩) (fun j hj => by
    have := h.tombs _ (Zu (show j < s.tombs.length from hj))
    have h1 := ZjY this.1
    show (gl (rd s.tombs j) 0).length ≤ 1000; omega)
  exact ⟨⟨s.idx, R, T, s.lost, s.sess, s.lasts⟩, ⟨rfl, rfl, rfl, rfl, hR, hT⟩, hN, e⟩
theorem own_eq {s : SD} (h : VS 0 s) : ∃ a, Eqv a s ∧ Zcp (Za s.v) = some a.v := by
  obtain ⟨a, h1, -, h2⟩ := own_eqN h
  exact ⟨a, h1, h2⟩
theorem opB_V {k : Int} {key val : List V} {n : Int} (h : opB k (Za4 key) key.length val.length n = true) (wk : LW ZS key) (wv : LW ZS val) : OpV k key val n := by
  unfold opB at h
  simp only [Bool.and_eq_true, decide_eq_true_eq] at h
  obtain ⟨h1, ⟨-, h3⟩, -, -, h6⟩ := h
  refine ⟨h6, fun hk => ?_, fun hk => ?_, h1, wk, wv⟩
  · rw [decide_eq_true (show k = 1 ∨ k = 2 ∨ k = 3 ∨ k = 6 ∨ k = 7 from hk)] at h3; exact h3
  · rw [decide_eq_false (show ¬ (k = 1 ∨ k = 2 ∨ k = 3 ∨ k = 6 ∨ k = 7) from hk)] at h3
    exact of_decide_eq_true h3
theorem Zll {c : V} (hw : Zfn c) (h : ZbC c = true) : CmdV c := by
  unfold ZbC at h
  by_cases h1 : gi c 0 = -1
  · exact .inl (by omega)
  · rw [decide_eq_false h1] at h
    simp only [cond_false, Bool.and_eq_true, decide_eq_true_eq] at h
    exact .inr ⟨h.1.1, h.1.2, h.2.1.1, h.2.1.2, opB_V h.2.2 hw.2.2.2.1 hw.2.2.2.2.1⟩
theorem CmdV.lens {c : V} (hw : Zfn c) (h : ZbC c = true) : (gl c 3).length ≤ 1000 ∧ (gl c 4).length ≤ 1000 ∧ (opK (gi c 2) → 0 < (gl c 3).length) ∧ (gi c 0 < 0 ∨ (0 ≤ gi c 0 ∧ gi c 0 ≤ 3)) := by
  have key : ∀ {k : Int} {n : Int}, opB k (Za4 (gl c 3)) (gl c 3).length (gl c 4).length n = true → (gl c 3).length ≤ 1000 ∧ (gl c 4).length ≤ 1000 ∧ (opK k → 0 < (gl c 3).length) := fun {k n} h => by
    have ho := opB_V h hw.2.2.2.1 hw.2.2.2.2.1
    have hv := ho.val
    by_cases hk : opK k
    · have := ho.key hk
      have h1 := ZjY this
      refine ⟨by omega, by omega, fun _ => ?_⟩
      unfold Za4 at this
      simp only [Bool.and_eq_true, decide_eq_true_eq] at this
      omega
    · have := ho.nk hk
      exact ⟨by omega, by omega, fun h => absurd h hk⟩
  unfold ZbC at h
  by_cases h1 : gi c 0 = -1
  · rw [decide_eq_true h1] at h
    simp only [cond_true, Bool.and_eq_true] at h
    obtain ⟨a, b, d⟩ := key h.2.2
    exact ⟨a, b, d, .inl (by omega)⟩
  · rw [decide_eq_false h1] at h
    simp only [cond_false, Bool.and_eq_true, decide_eq_true_eq] at h
    obtain ⟨a, b, d⟩ := key h.2.2
    exact ⟨a, b, d, .inr h.1⟩
def Zbs (a b : Int) : V := V.agg [(V.int .i64 a), (V.int .i64 b)]
theorem ZdC {s : SD} (h : VS 0 s) (hi : s.idx < 1000000) {c : V} (hc : Zfn c) (hcb : ZbC c = true) :
    ∃ a, Eqv a s ∧ VS 0 a ∧ ZC (Za s.v) (Zn c) = some ((a.apply c).2.v, Zbs (a.apply c).1.1 (a.apply c).1.2) := by
  obtain ⟨a, ea, e⟩ := own_eq h
  have ha := h.eqv ea
  refine ⟨a, ea, ha, ?_⟩
  have hce : Zem (Zn c) = some (ZbC c) := Zia hc
  obtain ⟨l1, l2, l3, l4⟩ := CmdV.lens hc hcb
  have i0 := ha.i0; have i1 := ha.i1; have n4 := ha.nl
  have hap := Zmt (s := a) (c := c) ha.asc ha.nr ha.nt ha.ns (by omega) ha.lasc (fun i hi => by have := ha.lasts _ (Zu hi); exact ⟨this.1, this.2.1⟩) i0 (by omega) l1 l2 l3 l4
  unfold ZC
  rw [show Za (Za s.v) = Za s.v from rfl, show Zn (Zn c) = Zn c from rfl, Zfp h.W, h.B, hce, hcb]
  simp only [Option.bind_some, Bool.not_true, cond_false]
  rw [decide_eq_false (show ¬ gi (Za s.v) 0 = 1000000 by show ¬ s.idx = 1000000; omega), e]
  simp only [cond_false, Option.bind_some]
  rw [show Za a.v = a.v from rfl, hap]
  rfl
def Zc3 (v : Int × Bool × List V) : V := V.agg [(V.int .i64 v.1), (V.bool v.2.1), (V.inl Zc v.2.2)]
theorem Zed {s : SD} (h : VS 0 s) {key : List V} (hk : LW ZS key) : Zck (Za s.v) key = some (bif Za4 key then Zc3 (s.view (Zq key)) else Zc3 (0, false, [])) := by
  unfold Zck
  rw [show Za (Za s.v) = Za s.v from rfl, Zfp h.W, h.B, ZeH hk]
  simp only [Option.bind_some, Bool.not_true, cond_false]
  cases Za4 key with
  | false => rfl
  | true =>
    simp only [Bool.not_true, cond_false, cond_true]
    have n1 := h.nr; have n2 := h.nt
    have key1 : ZdV (Za s.v) key = some (Zc3 (s.view (Zq key))) := by
      unfold ZdV
      rw [show Za (Za s.v) = Za s.v from rfl, ZfR (s := s.v) (show s.rows.length ≤ 4194304 by omega) h.asc key]
      have hf := ZgI (k := key) h.asc
      simp only [Option.bind_some, show gl (Za s.v) 1 = s.rows from rfl, show gl (Za s.v) 2 = s.tombs from rfl, show gi (Za s.v) 3 = s.lost from rfl, show gl s.v 1 = s.rows from rfl]
      cases hh : Zcv (fun r => gl r 0) s.rows key with
      | true =>
        rw [hh] at hf
        have hj := Zjh hh
        have hc := ZeT hf
        have hr := h.rows _ (Zu hj)
        rw [ZcA (s := s) (by rw [← hc]; exact Zfs h.ndR hj)]
        simp only [cond_true, Zo hj, Int.toNat_natCast]
        rw [ZcK (by omega)]; rfl
      | false =>
        rw [hh] at hf
        have hno : fnd s.rows (Zq key) = none := Zeb (Zeq hf)
        simp only [cond_false]
        rw [ZgG (s := s.v) (show s.tombs.length ≤ 9223372036854775807 by omega)]
        simp only [Option.bind_some, show gl s.v 2 = s.tombs from rfl]
        cases hft : Zr (fun i => neq (gl (rd s.tombs i) 0) key) 0 s.tombs.length with
        | none =>
          rw [Ze1 hft, Zgm hno (Zeb (Zeq hft))]; rfl
        | some j =>
          have hj := ZbL hft
          have hc := ZeT hft
          rw [ZdN hft, decide_eq_true (show (0 : Int) ≤ (j : Int) by omega), Zdl hno (by rw [← hc]; exact Zfs h.ndT hj)]
          simp only [cond_true, Zo hj, Int.toNat_natCast]
          rfl
    rw [show Za s.v = Za s.v from rfl, key1]; rfl
theorem Zob (a b : Int × Bool × List V) : ZaB (Zc3 a) (Zc3 b) = (decide (a.1 = b.1) && (decide (a.2.1 = b.2.1) && neq a.2.2 b.2.2)) := by
  obtain ⟨a1, a2, a3⟩ := a
  obtain ⟨b1, b2, b3⟩ := b
  unfold ZaB Za7
  show (bif decide (a1 = b1) then (bif (a2 == b2) then neq a3 b3 else false) else false) = _
  cases decide (a1 = b1) <;> cases a2 <;> cases b2 <;> rfl
theorem ZdD (a : Int × Bool × List V) : ZaB (Zc3 a) (Zc3 a) = true := by rw [Zob, decide_eq_true rfl, decide_eq_true rfl, Zea]; rfl
end Go.Eng.R
open Go Go.Eng
namespace Go.Eng.R
set_option maxRecDepth 100000
end Go.Eng.R
open Go Go.Eng
namespace Go.Eng.R
set_option maxRecDepth 100000
theorem Zf3 {id : Int} (h0 : id ≠ 0) (del : Bool) : ∀ (n k : Nat) (s : SD), VS id s → 1 ≤ s.idx → (∀ i, i < k → i < s.rows.length → gi (rd s.rows i) 3 ≠ id) → s.rows.length ≤ n + k → ∀ q r, fnd s.rows q = some r →
    (gi r 3 ≠ id → fnd (SD.shutL id del n k s).rows q = some r) ∧
    (gi r 3 = id → ((SD.shutL id del n k s).view q).1 = s.idx ∧ ((SD.shutL id del n k s).view q).2.1 = !del)
  | 0, k, s, h, h1, hk, hn, q, r, hr => ⟨fun _ => hr, fun e => by
      obtain ⟨i, hi, rfl⟩ := ZbB (Zec hr).1
      have hi : i < s.rows.length := hi
      exact absurd e (hk i (by omega) hi)⟩
  | n + 1, k, s, h, h1, hk, hn, q, r, hr => by
    rw [SD.shutL]
    by_cases hlt : k < s.rows.length
    case neg =>
      rw [dF hlt]
      exact ⟨fun _ => hr, fun e => by
        obtain ⟨i, hi, rfl⟩ := ZbB (Zec hr).1
        have hi : i < s.rows.length := hi
        exact absurd e (hk i (by omega) hi)⟩
    rw [dT hlt]
    by_cases hh : gi (rd s.rows k) 3 = id
    case neg =>
      rw [dF hh]
      refine Zf3 h0 del n (k + 1) s h h1 (fun i hi hi2 => ?_) (by omega) q r hr
      rcases Nat.lt_or_ge i k with c | c
      · exact hk i c hi2
      · obtain rfl : i = k := by omega
        exact hh
    rw [dT hh]
    have hrk := h.rows _ (Zu hlt)
    cases del with
    | true =>
      simp only [Bool.not_true, cond_false, cond_true]
      have hl := (Zh0 hlt h.nt).1
      have e1 := Zj1 s k
      have e2 := ZiP s k
      have hb := h.bury h1 hlt
      have hfr := ZiN h.ndR hlt q
      rw [← e2] at hfr
      have hk' : ∀ i, i < k → i < (s.bury k).rows.length → gi (rd (s.bury k).rows i) 3 ≠ id := fun i hi hi2 => by
        rw [e2, rdRm (Nat.le_of_lt hlt), if_pos hi]
        exact hk i hi (by omega)
      by_cases hq : kc (rd s.rows k) = q
      · have hrr : r = rd s.rows k := by
          have := Zfs h.ndR hlt
          rw [hq, hr] at this; exact Option.some.inj this
        subst hrr
        refine ⟨fun e => absurd hh e, fun _ => ?_⟩
        have v1 := (ZgZ h hlt q).1 hq
        obtain ⟨t1, t2⟩ := ZgJ h0 true n k (s.bury k) hb (by omega) q
        rw [v1, e1] at t1
        rw [e1] at t2
        have hno : fnd (SD.shutL id true n k (s.bury k)).rows q = none := by
          rw [decide_eq_true hq] at hfr
          exact shutL_none h0 true n k (s.bury k) hb (by omega) q hfr
        refine ⟨?_, by rw [Zp8 hno]⟩
        rcases t1 with t1 | t1 | ⟨-, -, t1⟩
        · rw [t1]
        · exact t1
        · exact Int.le_antisymm t2 t1
      · rw [decide_eq_false hq] at hfr
        obtain ⟨a, b⟩ := Zf3 h0 true n k (s.bury k) hb (by omega) hk' (by omega) q r (hfr.trans hr)
        rw [e1] at b
        exact ⟨a, b⟩
    | false =>
      simp only [Bool.not_true, cond_false, cond_true]
      have hs := h.setRow hlt hrk.2.1 (h.wr _ (Zu hlt)).2 ⟨h1, Int.le_refl _⟩ (.inl rfl)
      have hfs := Zdt h hlt (gl (rd s.rows k) 1) s.idx 0 q
      have hk' : ∀ i, i < k + 1 → i < ({ s with rows := s.rows.set k (ZU (gl (rd s.rows k) 0) (gl (rd s.rows k) 1) s.idx 0) } : SD).rows.length → gi (rd ({ s with rows := s.rows.set k (ZU (gl (rd s.rows k) 0) (gl (rd s.rows k) 1) s.idx 0) } : SD).rows i) 3 ≠ id := fun i hi hi2 => by
        show gi (rd (s.rows.set k _) i) 3 ≠ id
        by_cases c : i = k
        · subst c; rw [Zbe hlt]; exact fun e => h0 e.symm
        · rw [ZdM c]; exact hk i (by omega) (by have : (s.rows.set k (ZU (gl (rd s.rows k) 0) (gl (rd s.rows k) 1) s.idx 0)).length = _ := List.length_set; omega)
      by_cases hq : kc (rd s.rows k) = q
      · have hrr : r = rd s.rows k := by
          have := Zfs h.ndR hlt
          rw [hq, hr] at this; exact Option.some.inj this
        subst hrr
        refine ⟨fun e => absurd hh e, fun _ => ?_⟩
        rw [decide_eq_true hq] at hfs
        obtain ⟨a, -⟩ := Zf3 h0 false n (k + 1) _ hs h1 hk' (by show (s.rows.set k _).length ≤ _; rw [List.length_set]; omega) q _ hfs
        have a := a (fun e => h0 e.symm)
        rw [ZcA a]
        exact ⟨rfl, rfl⟩
      · rw [decide_eq_false hq] at hfs
        exact Zf3 h0 false n (k + 1) _ hs h1 hk' (by show (s.rows.set k _).length ≤ _; rw [List.length_set]; omega) q r (hfs.trans hr)
where
  shutL_none {id : Int} (h0 : id ≠ 0) (del : Bool) : ∀ (n k : Nat) (s : SD), VS id s → 1 ≤ s.idx → ∀ q, fnd s.rows q = none → fnd (SD.shutL id del n k s).rows q = none
  | 0, k, s, h, h1, q, hr => hr
  | n + 1, k, s, h, h1, q, hr => by
    rw [SD.shutL]
    by_cases hlt : k < s.rows.length
    case neg => rw [dF hlt]; exact hr
    rw [dT hlt]
    by_cases hh : gi (rd s.rows k) 3 = id
    case neg => rw [dF hh]; exact shutL_none h0 del n (k + 1) s h h1 q hr
    rw [dT hh]
    have hq : kc (rd s.rows k) ≠ q := ZjZ hr _ (Zu hlt)
    cases del with
    | true =>
      simp only [Bool.not_true, cond_false, cond_true]
      refine shutL_none h0 true n k (s.bury k) (h.bury h1 hlt) (by rw [Zj1]; exact h1) q ?_
      rw [ZiP, ZiN h.ndR hlt, decide_eq_false hq]; exact hr
    | false =>
      simp only [Bool.not_true, cond_false]
      have hrk := h.rows _ (Zu hlt)
      refine shutL_none h0 false n (k + 1) _ (h.setRow hlt hrk.2.1 (h.wr _ (Zu hlt)).2 ⟨h1, Int.le_refl _⟩ (.inl rfl)) h1 q ?_
      rw [show ({ s with rows := s.rows.set k (ZU (gl (rd s.rows k) 0) (gl (rd s.rows k) 1) s.idx 0) } : SD).rows = s.rows.set k (ZU (gl (rd s.rows k) 0) (gl (rd s.rows k) 1) s.idx 0) from rfl, Zdt h hlt, decide_eq_false hq]; exact hr
theorem at_O {code : List V} (h : LW ZS code) (i : Int) (hi : 0 ≤ i) : Ok (fun x => 0 ≤ x ∧ x ≤ 255) (Ze0 code i) := by
  unfold Ze0
  by_cases h0 : code.length = 0
  · rw [decide_eq_true (show ((code.length : Nat) : Int) = 0 by omega)]; exact ⟨0, rfl, by decide, by decide⟩
  rw [decide_eq_false (show ¬ ((code.length : Nat) : Int) = 0 by omega)]
  obtain ⟨t0, t1⟩ := Zep (x := i) (n := ((code.length : Nat) : Int)) hi (by omega)
  simp only [cond_false, Bool.not_false, cond_true]
  rw [ZdA t0 t1]
  have hb := h.rd (i := (i.tmod ((code.length : Nat) : Int)).toNat) (by omega)
  obtain ⟨b0, b1⟩ := hb
  refine ⟨_, rfl, ?_⟩
  show 0 ≤ IntKind.i64.wrap (gi (rd code ((i.tmod ((code.length : Nat) : Int)).toNat)) 0) ∧ _
  rw [Zap (by omega) (by omega)]
  exact ⟨b0, b1⟩
theorem VS.noLasts {s : SD} (h : VS 0 s) : VS 0 { s with lasts := [] } :=
  h.withLasts (fun _ h => (by cases h)) (fun i h => absurd h (Nat.not_lt_zero _))
def ZaN (cl rq k : Int) (key val : List V) (n : Int) : V := V.agg [(V.int .i64 cl), (V.int .i64 rq), (V.int .i64 k), (V.inl Zc key), (V.inl Zc val), (V.int .i64 n)]
theorem ZiR {cl rq k n : Int} {key val : List V} (h1 : I64 cl) (h2 : I64 rq) (h3 : I64 k) (hk : LW ZS key) (hv : LW ZS val) (hn : I64 n) : Zfn (ZaN cl rq k key val n) := ⟨h1, h2, h3, hk, hv, hn⟩
theorem smI {n : Int} (h0 : 0 ≤ n) (h1 : n ≤ 1000000) : I64 n := ⟨by omega, by omega⟩
theorem shut_cmd {n : Int} (h0 : 1 ≤ n) (h1 : n ≤ 1000000) : ZbC (ZaN 0 1 5 [] [] n) = true := by
  have e : ZbC (ZaN 0 1 5 [] [] n) = (decide (0 ≤ n ∧ n ≤ 1000000) && decide (1 ≤ n)) := by
    unfold ZbC
    rw [show gi (ZaN 0 1 5 [] [] n) 0 = 0 from rfl, show gi (ZaN 0 1 5 [] [] n) 1 = 1 from rfl, show gi (ZaN 0 1 5 [] [] n) 2 = 5 from rfl, show gl (ZaN 0 1 5 [] [] n) 3 = [] from rfl, show gl (ZaN 0 1 5 [] [] n) 4 = [] from rfl, show gi (ZaN 0 1 5 [] [] n) 5 = n from rfl]
    unfold opB
    simp
  rw [e, decide_eq_true ⟨by omega, h1⟩, decide_eq_true h0]; rfl
theorem Zoc {s : SD} {c : V} (hl : s.lasts = []) (hc : 0 ≤ gi c 0) : s.apply c = (((s.up.do' (gi c 2) (gl c 3) (gl c 4) (gi c 5)).1, s.idx + 1), { (s.up.do' (gi c 2) (gl c 3) (gl c 4) (gi c 5)).2 with lasts := [Zgg (gi c 0) (gi c 1) (s.up.do' (gi c 2) (gl c 3) (gl c 4) (gi c 5)).1 (s.idx + 1)] }) := by
  unfold SD.apply
  rw [dF (show ¬ gi c 0 < 0 by omega), hl]
  rfl
theorem Zl1 {s : SD} {i : Nat} (h : VS 0 s) (hi : i < s.sess.length) : s.sessAt (gi (rd s.sess i) 0) = some i := by
  unfold SD.sessAt
  refine ZgY hi (decide_eq_true rfl) fun t ht => decide_eq_false ?_
  have := h.sasc.lt _ _ ht hi; omega
theorem Zqa {s y : SD} {x : V} (hs : VS 0 s) (hy : VS 0 y)
    (hx : ∀ i, i < s.rows.length → (gi (rd s.rows i) 3 ≠ gi x 0 → y.view (kc (rd s.rows i)) = (gi (rd s.rows i) 2, true, gl (rd s.rows i) 1)) ∧ (gi (rd s.rows i) 3 = gi x 0 → (y.view (kc (rd s.rows i))).1 = y.idx ∧ (y.view (kc (rd s.rows i))).2.1 = !gb x 1)) :
    ∀ r3 : List V, Zat (s.rows.length + 1) 0 (V.agg [(V.int .i64 s.idx), (V.inl Zg s.rows), (V.inl Zf s.tombs), (V.int .i64 s.lost), (V.inl Zd s.sess), (V.sl 3 Ze 0 none)]) (ZD x) (y.b 4 5 6 7) r3 y.rows y.tombs y.sess y.lasts =
      some (1, false, ZD x, y.b 2 3 4 5, y.rows, y.tombs, y.sess, y.lasts) := by
  intro r3
  refine ZeZ (F := fun m i => Zat m i (V.agg [(V.int .i64 s.idx), (V.inl Zg s.rows), (V.inl Zf s.tombs), (V.int .i64 s.lost), (V.inl Zd s.sess), (V.sl 3 Ze 0 none)]) (ZD x) (y.b 4 5 6 7) r3 y.rows y.tombs y.sess y.lasts) ?_ ?_
  · intro m i hi
    show Zat (m + 1) (i : Int) _ _ _ _ _ _ _ _ = _
    have nr := hs.nr
    have hk := (hs.rows _ (Zu hi)).1
    have hw := (hs.wr _ (Zu hi)).1
    rw [Zat]
    have el : Zck (V.agg [(V.int .i64 (gi (y.b 4 5 6 7) 0)), (V.inl Zg y.rows), (V.inl Zf y.tombs), (V.int .i64 (gi (y.b 4 5 6 7) 3)), (V.inl Zd y.sess), (V.inl Ze y.lasts)]) (gl (rd s.rows i) 0) = some (Zc3 (y.view (kc (rd s.rows i)))) := by
      have := Zed hy hw
      rw [hk] at this
      exact this
    simp only [show ∀ a b c d e f : V, gl (V.agg [a, b, c, d, e, f]) 1 = gl (V.agg [b]) 0 from fun _ _ _ _ _ _ => rfl, show ∀ l : List V, gl (V.agg [V.inl Zg l]) 0 = l from fun _ => rfl, Zag hi, Zo hi, cond_true, Int.toNat_natCast, el, Option.bind_some, Z8 hi (show s.rows.length ≤ 9223372036854775807 by omega)]
    obtain ⟨a, b⟩ := hx i hi
    by_cases e : gi (rd s.rows i) 3 = gi x 0
    · obtain ⟨b1, b2⟩ := b e
      rw [show decide (gi (rd s.rows i) 3 = gi (ZD x) 0) = true from decide_eq_true e]
      simp only [Bool.not_true, cond_false]
      show (bif ((y.view (kc (rd s.rows i))).2.1 == gb x 1) then _ else bif !decide ((y.view (kc (rd s.rows i))).1 = y.idx) then _ else _) = _
      rw [b1, b2, decide_eq_true rfl]
      cases gb x 1 <;> rfl
    · have a := a e
      rw [show decide (gi (rd s.rows i) 3 = gi (ZD x) 0) = false from decide_eq_false e]
      simp only [Bool.not_false, cond_true]
      rw [a, show ZaB (Zb0 (Zc3 (gi (rd s.rows i) 2, true, gl (rd s.rows i) 1))) (V.agg [(V.int .i64 (gi (rd s.rows i) 2)), (V.bool true), (V.inl Zc (gl (rd s.rows i) 1))]) = true from ZdD (gi (rd s.rows i) 2, true, gl (rd s.rows i) 1)]
      rfl
  · intro m
    show Zat (m + 1) ((s.rows.length : Nat) : Int) _ _ _ _ _ _ _ _ = _
    rw [Zat]
    simp only [show ∀ a b c d e f : V, gl (V.agg [a, b, c, d, e, f]) 1 = gl (V.agg [b]) 0 from fun _ _ _ _ _ _ => rfl, show ∀ l : List V, gl (V.agg [V.inl Zg l]) 0 = l from fun _ => rfl, Z3]
    rfl
theorem Zqb {y : SD} {x : V} (hy : y.rows.length ≤ 20) (h : ∀ r ∈ y.rows, gi r 3 ≠ gi x 0) : ZaL (y.rows.length + 1) 0 (ZD x) (y.b 2 3 4 5) y.rows y.tombs y.sess y.lasts = some (1, false) := by
  refine ZeZ (F := fun m i => ZaL m i (ZD x) (y.b 2 3 4 5) y.rows y.tombs y.sess y.lasts) ?_ ?_
  · intro m i hi
    show ZaL (m + 1) (i : Int) _ _ _ _ _ _ = _
    rw [ZaL, Zag hi, Zo hi, Nat.zero_add, Int.toNat_natCast, show decide (gi (rd y.rows i) 3 = gi (ZD x) 0) = false from decide_eq_false (h _ (Zu hi)), Z8 hi (by omega)]
    rfl
  · intro m
    show ZaL (m + 1) ((y.rows.length : Nat) : Int) _ _ _ _ _ _ = _
    rw [ZaL, Z3]; rfl
theorem Zqc {code : List V} (h : LW ZS code) : Zdg code = some true := by
  unfold Zdg
  obtain ⟨⟨st, c⟩, e, ⟨s, hb, es⟩, hc⟩ := ZdO h
  have es : st = s.v := es
  subst es
  rw [e]
  simp only [Option.bind_some]
  rw [ZgX hb.W]
  simp only [Option.bind_some, show gi s.v 0 = s.idx from rfl, show gl s.v 4 = s.sess from rfl, show gl s.v 1 = s.rows from rfl, show gl s.v 2 = s.tombs from rfl, show gi s.v 3 = s.lost from rfl]
  cases hv : ZaJ s.v with
  | false => rfl
  | true =>
  have hs := VS.of hb.W hv
  simp only [Bool.not_true, cond_false]
  by_cases hi : (1000000 : Int) ≤ s.idx
  · rw [decide_eq_true hi]; rfl
  rw [decide_eq_false hi]
  simp only [cond_false]
  by_cases h0 : s.sess.length = 0
  · rw [decide_eq_true (show ((s.sess.length : Nat) : Int) = 0 by omega)]; rfl
  rw [decide_eq_false (show ¬ ((s.sess.length : Nat) : Int) = 0 by omega)]
  simp only [cond_false]
  obtain ⟨a, ea, a0, a1⟩ := at_O h 1 (by decide)
  rw [ea]
  simp only [Option.bind_some, Bool.not_false, cond_true]
  obtain ⟨t0, t1⟩ := Zep (x := a) (n := ((s.sess.length : Nat) : Int)) a0 (by omega)
  rw [ZdA t0 t1]
  simp only [cond_true, Nat.zero_add]
  generalize hj : (a.tmod ((s.sess.length : Nat) : Int)).toNat = j
  have hjl : j < s.sess.length := by omega
  have hid := hs.sess _ (Zu hjl)
  have i1 := hs.i1; have i0 := hs.i0
  have hs0 := hs.noLasts
  obtain ⟨b, eb, vb, e1⟩ := ZdC hs0 (show s.idx < 1000000 by omega) (c := ZaN 0 1 5 [] [] (gi (rd s.sess j) 0)) (ZiR (smI (by decide) (by decide)) (smI (by decide) (by decide)) (smI (by decide) (by decide)) LW.nil LW.nil (smI (by omega) (by omega))) (shut_cmd hid.1 (by omega))
  have hbs : b.sess = s.sess := eb.sess
  have hbi : b.idx = s.idx := eb.idx
  have hbl : b.lasts = [] := eb.lasts
  refine Eq.trans (congrArg (fun o => Option.bind o _) (show _ = _ from e1)) ?_
  have hup := vb.up (by omega)
  have hse : b.up.sessAt (gi (rd s.sess j) 0) = some j := by rw [← hbs]; exact Zl1 hup (by show j < b.sess.length; rw [hbs]; exact hjl)
  have hdo : b.up.do' 5 [] [] (gi (rd s.sess j) 0) = (0, b.up.shut j) := by
    unfold SD.do'
    rw [hse]; rfl
  rw [Zoc (c := ZaN 0 1 5 [] [] (gi (rd s.sess j) 0)) hbl (show (0 : Int) ≤ 0 by decide)]
  rw [show gi (ZaN 0 1 5 [] [] (gi (rd s.sess j) 0)) 0 = 0 from rfl, show gi (ZaN 0 1 5 [] [] (gi (rd s.sess j) 0)) 1 = 1 from rfl, show gi (ZaN 0 1 5 [] [] (gi (rd s.sess j) 0)) 2 = 5 from rfl, show gl (ZaN 0 1 5 [] [] (gi (rd s.sess j) 0)) 3 = [] from rfl, show gl (ZaN 0 1 5 [] [] (gi (rd s.sess j) 0)) 4 = [] from rfl, show gi (ZaN 0 1 5 [] [] (gi (rd s.sess j) 0)) 5 = gi (rd s.sess j) 0 from rfl, hdo]
  have hju : j < b.up.sess.length := by show j < b.sess.length; rw [hbs]; exact hjl
  obtain ⟨w1, w2, w3⟩ := hup.shut (show 1 ≤ b.idx + 1 by omega) hju
  have hidx : (b.up.shut j).idx = b.idx + 1 := Zf2 _ _ _ _ _
  have w4 : VS 0 { b.up.shut j with lasts := [Zgg 0 1 0 (b.idx + 1)] } := by
    refine w1.withLasts (fun l hl => ?_) (fun i hi => absurd hi (by simp))
    rw [List.mem_singleton.1 hl, hidx]
    exact ⟨by show (0 : Int) ≤ 0; decide, by show (0 : Int) ≤ 3; decide, by show (1 : Int) ≤ 1; decide, by show (1 : Int) ≤ 1000000; decide, by show (0 : Int) ≤ 0; decide, by show (0 : Int) ≤ 5; decide, by show 1 ≤ b.idx + 1; omega, Int.le_refl _⟩
  have hsess : gi (rd b.up.sess j) 0 = gi (rd s.sess j) 0 := by show gi (rd b.sess j) 0 = _; rw [hbs]
  have hgb : gb (rd b.up.sess j) 1 = gb (rd s.sess j) 1 := by show gb (rd b.sess j) 1 = _; rw [hbs]
  generalize hy : ({ b.up.shut j with lasts := [Zgg 0 1 0 (b.idx + 1)] } : SD) = y at *
  have hyr : y.rows = (b.up.shut j).rows := by rw [← hy]
  have hyi : y.idx = b.idx + 1 := by rw [← hy]; exact hidx
  have hys : y.sess = Zae b.up.sess j := by rw [← hy]; exact w3
  have hyv : ∀ q, y.view q = (b.up.shut j).view q := fun q => by rw [← hy]; rfl
  have hrow : ∀ i, i < s.rows.length → (gi (rd s.rows i) 3 ≠ gi (rd s.sess j) 0 → y.view (kc (rd s.rows i)) = (gi (rd s.rows i) 2, true, gl (rd s.rows i) 1)) ∧ (gi (rd s.rows i) 3 = gi (rd s.sess j) 0 → (y.view (kc (rd s.rows i))).1 = y.idx ∧ (y.view (kc (rd s.rows i))).2.1 = !gb (rd s.sess j) 1) := fun i hi => by
    obtain ⟨q1, q2, q3, q4⟩ := eb.rows.2 i hi
    have hir : i < b.rows.length := by rw [eb.rows.1]; exact hi
    have hkc : kc (rd b.rows i) = kc (rd s.rows i) := by unfold kc; rw [q1]
    have hf : fnd b.up.rows (kc (rd s.rows i)) = some (rd b.rows i) := by rw [← hkc]; exact Zfs vb.ndR hir
    obtain ⟨p1, p2⟩ := Zf3 (id := gi (rd b.up.sess j) 0) (by rw [hsess]; omega) (gb (rd b.up.sess j) 1) b.up.rows.length 0 _ (hup.lose hju) (show 1 ≤ b.idx + 1 by omega) (fun i hi => absurd hi (Nat.not_lt_zero _)) (Nat.le_refl _) _ _ hf
    rw [hyv, hyi]
    refine ⟨fun hne => ?_, fun he => ?_⟩
    · have := p1 (by rw [q4, hsess]; exact hne)
      rw [ZcA (s := b.up.shut j) this, q2, q3]
    · have := p2 (by rw [q4, hsess]; exact he)
      rw [← hgb]
      exact this
  have hl10 := Zqa (x := rd s.sess j) hs w4 hrow []
  have hl20 := Zqb (y := y) (x := rd s.sess j) w4.nr (fun r hr => by rw [hyr] at hr; rw [← hsess]; exact w2 r hr)
  simp only [Option.bind_some, show ∀ x y, gi (Zbs x y) 0 = x from fun _ _ => rfl, show gl y.v 4 = y.sess from rfl, show gi y.v 0 = y.idx from rfl, show gi y.v 3 = y.lost from rfl, show gl y.v 1 = y.rows from rfl, show gl y.v 2 = y.tombs from rfl, show gl y.v 5 = y.lasts from rfl]
  have hlen : ((y.sess.length : Nat) : Int) = IntKind.i64.wrap (((s.sess.length : Nat) : Int) - 1) := by
    have n3 := hs.ns
    rw [hys, Zcz hju, show b.up.sess.length = s.sess.length from congrArg List.length hbs, Zap (by omega) (by omega)]
    omega
  rw [decide_eq_true hlen]
  simp only [decide_true, Bool.not_true, cond_false, Zbd]
  refine Eq.trans (congrArg (fun o => Option.bind o _) (show _ = _ from hl10)) ?_
  simp only [Option.bind_some]
  refine Eq.trans (congrArg (fun o => Option.bind o _) (show _ = _ from hl20)) ?_
  rfl
end Go.Eng.R
open Go Go.Eng
namespace Go.Eng.R
set_option maxRecDepth 100000
def SD.hd (s : SD) (k : List Int) : Option Int := (fnd s.rows k).map fun r => gi r 3
theorem put_ok {s : SD} {key val : List V} (h : s.rows.length < 20 ∨ s.hd (Zq key) ≠ none) : (s.put key val).1 = true := by
  unfold SD.put
  cases hf : Zr (fun i => neq (gl (rd s.rows i) 0) key) 0 s.rows.length with
  | some j => rfl
  | none =>
    rcases h with h | h
    · rw [decide_eq_false (show ¬ 20 ≤ s.rows.length by omega)]; rfl
    · exact absurd (by unfold SD.hd; rw [Zeb (Zeq hf)]; rfl) h
end Go.Eng.R
open Go Go.Eng
namespace Go.Eng.R
set_option maxRecDepth 100000
end Go.Eng.R
open Go Go.Eng
namespace Go.Eng.R
set_option maxRecDepth 100000
end Go.Eng.R
open Go Go.Eng
namespace Go.Eng.R
theorem Zhu {x : V} (h : WtT tab Zc x) : ZS x := wt_u8 (h.cell 0 rfl)
def ZgK : List TypeId := [5, 22]
end Go.Eng.R
