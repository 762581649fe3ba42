/- An own evaluator of the program's form, proved sound, and what it says of this law's functions: part 9. -/
import Derived.Test.YtjhdhgbboomecaaGreatE8
set_option linter.unusedVariables false
open Go Go.Eng
namespace Go.Eng.R
set_option maxRecDepth 100000
theorem rdRm {l : List V} {i : Nat} (hi : i ≤ l.length) (t : Nat) : rd (Zae l i) t = rd l (if t < i then t else t + 1) := by
  have h1 : (l.take i).length = i := by rw [List.length_take]; omega
  unfold Zae rd
  simp only [List.getD]
  by_cases h : t < i
  · rw [List.getElem?_append_left (by omega), List.getElem?_take, if_pos h, if_pos h]
  · rw [List.getElem?_append_right (by omega), h1, List.getElem?_drop, if_neg h, show i + 1 + (t - i) = t + 1 by omega]
theorem ZlC {l : List V} {i t : Nat} {x : V} (hi : i ≤ l.length) (h : i ≤ t) : rd (Z2 l i x) (t + 1) = rd l t := by
  have h1 : (l.take i ++ [x]).length = i + 1 := by rw [List.length_append, List.length_take, List.length_singleton]; omega
  unfold Z2 rd
  simp only [List.getD]
  rw [List.getElem?_append_right (by omega), h1, List.getElem?_drop, show i + (t + 1 - (i + 1)) = t by omega]
def Asc (R : V → V → Prop) (l : List V) : Prop := ∀ i, i + 1 < l.length → R (rd l i) (rd l (i + 1))
theorem Asc.ins {R : V → V → Prop} {l : List V} {p : Nat} {x : V} (h : Asc R l) (hp : p ≤ l.length) (h1 : 0 < p → R (rd l (p - 1)) x) (h2 : p < l.length → R x (rd l p)) : Asc R (Z2 l p x) := by
  intro i hi
  rw [ZcS hp] at hi
  rcases Nat.lt_trichotomy i p with c | c | c
  · rw [ZlB hp c]
    rcases Nat.lt_or_ge (i + 1) p with d | d
    · rw [ZlB hp d]; exact h i (by omega)
    · obtain rfl : p = i + 1 := by omega
      rw [Zje hp]; have := h1 (by omega); rwa [Nat.add_sub_cancel] at this
  · subst c
    rw [Zje hp, ZlC hp (Nat.le_refl _)]; exact h2 (by omega)
  · obtain ⟨j, rfl⟩ : ∃ j, i = j + 1 := ⟨i - 1, by omega⟩
    rw [ZlC hp (show p ≤ j by omega), ZlC hp (show p ≤ j + 1 by omega)]
    exact h j (by omega)
theorem Asc.rm {R : V → V → Prop} {l : List V} {p : Nat} (h : Asc R l) (hp : p < l.length) (ht : ∀ a b c, R a b → R b c → R a c) : Asc R (Zae l p) := by
  intro i hi
  rw [Zcz hp] at hi
  rw [rdRm (Nat.le_of_lt hp), rdRm (Nat.le_of_lt hp)]
  by_cases c : i < p
  · rw [if_pos c]
    by_cases d : i + 1 < p
    · rw [if_pos d]; exact h i (by omega)
    · rw [if_neg d]; exact ht _ _ _ (h i (by omega)) (h (i + 1) (by omega))
  · rw [if_neg c, if_neg (by omega)]; exact h (i + 1) (by omega)
theorem Asc.set {R : V → V → Prop} {l : List V} {p : Nat} {x : V} (h : Asc R l) (h1 : ∀ a, R a (rd l p) → R a x) (h2 : ∀ a, R (rd l p) a → R x a) : Asc R (l.set p x) := by
  intro i hi
  rw [List.length_set] at hi
  by_cases c : i = p
  · subst c
    rw [Zbe (by omega), ZdM (by omega)]; exact h2 _ (h i hi)
  · rw [ZdM c]
    by_cases d : i + 1 = p
    · subst d; rw [Zbe (by omega)]; exact h1 _ (h i hi)
    · rw [ZdM d]; exact h i hi
theorem Zp7 (l : List V) (x : V) : Z2 l l.length x = l ++ [x] := by unfold Z2; rw [List.take_length, List.drop_length, List.append_nil]
theorem Asc.snoc {R : V → V → Prop} {l : List V} {x : V} (h : Asc R l) (h1 : ∀ y ∈ l, R y x) : Asc R (l ++ [x]) := by
  rw [← Zp7]
  exact h.ins (Nat.le_refl _) (fun h0 => h1 _ (Zu (by omega))) (fun h0 => absurd h0 (Nat.lt_irrefl _))
theorem asc_tr : ∀ a b c : V, nlt (gl a 0) (gl b 0) = true → nlt (gl b 0) (gl c 0) = true → nlt (gl a 0) (gl c 0) = true := fun _ _ _ h1 h2 => ZiI h1 h2
theorem ascI_few : ∀ {l : List V}, AscI l → (∀ x ∈ l, 0 ≤ gi x 0 ∧ gi x 0 ≤ 3) → l.length ≤ 4 := by
  intro l h hb
  have key : ∀ i, i < l.length → (i : Int) ≤ gi (rd l i) 0 := by
    intro i
    induction i with
    | zero => intro hi; exact (hb _ (Zu hi)).1
    | succ i ih =>
      intro hi
      have h1 := ih (by omega)
      have h2 := h i hi
      omega
  rcases Nat.lt_or_ge 4 l.length with c | c
  · have h1 := key 4 c
    have h2 := (hb _ (Zu c)).2
    omega
  · exact c
def fnd (l : List V) (k : List Int) : Option V := l.find? fun x => decide (kc x = k)
theorem ZfH (x : V) (l : List V) (k : List Int) : fnd (x :: l) k = bif decide (kc x = k) then some x else fnd l k := by
  unfold fnd
  rw [List.find?_cons]
  cases decide (kc x = k) <;> rfl
theorem ZlD : ∀ {l : List V}, (l.map kc).Nodup → ∀ {r : V}, r ∈ l → fnd l (kc r) = some r
  | [], _, r, h => by cases h
  | x :: l, hn, r, h => by
    rw [ZfH]
    rw [List.map_cons, List.nodup_cons] at hn
    rcases List.mem_cons.1 h with rfl | h
    · rw [decide_eq_true rfl]; rfl
    · have : kc x ≠ kc r := fun e => hn.1 (by rw [e]; exact List.mem_map_of_mem h)
      rw [decide_eq_false this]; exact ZlD hn.2 h
theorem Zeb : ∀ {l : List V} {k : List Int}, (∀ r ∈ l, kc r ≠ k) → fnd l k = none
  | [], _, _ => rfl
  | x :: l, k, h => by
    rw [ZfH, decide_eq_false (h x (List.mem_cons_self ..))]
    exact Zeb fun r hr => h r (List.mem_cons_of_mem _ hr)
theorem Zec {l : List V} {k : List Int} {r : V} (h : fnd l k = some r) : r ∈ l ∧ kc r = k := ⟨List.mem_of_find?_eq_some h, by have := List.find?_some h; exact of_decide_eq_true this⟩
theorem ZjZ {l : List V} {k : List Int} (h : fnd l k = none) : ∀ r ∈ l, kc r ≠ k := fun r hr e => by
  have := List.find?_eq_none.1 h r hr
  exact this (decide_eq_true e)
theorem Zj0 {l l' : List V} (hp : l.Perm l') (hn : (l.map kc).Nodup) (k : List Int) : fnd l k = fnd l' k := by
  cases h : fnd l k with
  | some r =>
    obtain ⟨h1, rfl⟩ := Zec h
    exact (ZlD ((hp.map kc).nodup hn) (hp.mem_iff.1 h1)).symm
  | none => exact (Zeb fun r hr => ZjZ h r (hp.mem_iff.2 hr)).symm
theorem Zfs {l : List V} (hn : (l.map kc).Nodup) {i : Nat} (hi : i < l.length) : fnd l (kc (rd l i)) = some (rd l i) := ZlD hn (Zu hi)
theorem ZiN {l : List V} (hn : (l.map kc).Nodup) {i : Nat} (hi : i < l.length) (k : List Int) : fnd (Zae l i) k = bif decide (kc (rd l i) = k) then none else fnd l k := by
  have hp := Ze2 hi
  rw [Zj0 hp hn k, ZfH]
  have hn' := (hp.map kc).nodup hn
  rw [List.map_cons, List.nodup_cons] at hn'
  by_cases h : kc (rd l i) = k
  · rw [decide_eq_true h]
    exact Zeb fun r hr e => hn'.1 (by rw [h, ← e]; exact List.mem_map_of_mem hr)
  · rw [decide_eq_false h]; rfl
theorem fnd_ins {l : List V} {x : V} (hn : ((x :: l).map kc).Nodup) (i : Nat) (k : List Int) : fnd (Z2 l i x) k = bif decide (kc x = k) then some x else fnd l k := by
  rw [Zj0 (ZfE l i x) (((ZfE l i x).map kc).symm.nodup hn) k, ZfH]
theorem Znx {l : List V} {i : Nat} (hi : i < l.length) (x : V) : (l.set i x).Perm (x :: Zae l i) := by
  have h := Ze2 (l := l.set i x) (by rw [List.length_set]; exact hi)
  rw [Zbe hi] at h
  have e : Zae (l.set i x) i = Zae l i := by
    unfold Zae
    rw [List.take_set_of_le (Nat.le_refl _), List.drop_set_of_lt (Nat.lt_succ_self _)]
  rwa [e] at h
theorem fnd_set {l : List V} (hn : (l.map kc).Nodup) {i : Nat} (hi : i < l.length) {x : V} (hx : kc x = kc (rd l i)) (k : List Int) : fnd (l.set i x) k = bif decide (kc x = k) then some x else fnd l k := by
  have e : (l.set i x).map kc = l.map kc := by
    rw [List.map_set]
    have : kc x = (l.map kc)[i]'(by rw [List.length_map]; exact hi) := by rw [hx, List.getElem_map, ZdT hi]
    rw [this, List.set_getElem_self]
  rw [Zj0 (Znx hi x) (by rw [e]; exact hn) k, ZfH]
  by_cases h : kc x = k
  · rw [decide_eq_true h]; rfl
  · rw [decide_eq_false h]
    show fnd (Zae l i) k = fnd l k
    rw [ZiN hn hi, decide_eq_false (by rw [← hx]; exact h)]; rfl
theorem VS.ndR {x : Int} {s : SD} (h : VS x s) : (s.rows.map kc).Nodup := (List.nodup_append.1 h.nd).1
theorem VS.ndT {x : Int} {s : SD} (h : VS x s) : (s.tombs.map kc).Nodup := (List.nodup_append.1 h.nd).2.1
theorem VS.apart {x : Int} {s : SD} (h : VS x s) {r t : V} (hr : r ∈ s.rows) (ht : t ∈ s.tombs) : kc r ≠ kc t := (List.nodup_append.1 h.nd).2.2 _ (List.mem_map_of_mem hr) _ (List.mem_map_of_mem ht)
theorem VS.bury {x : Int} {s : SD} (h : VS x s) (h1 : 1 ≤ s.idx) {i : Nat} (hi : i < s.rows.length) : VS x (s.bury i) := by
  have hr := h.rows _ (Zu hi)
  have hl := h.l1
  have hT : ∀ t ∈ s.tombs ++ [Za5 (gl (rd s.rows i) 0) s.idx], Za4 (gl t 0) = true ∧ 1 ≤ gi t 1 ∧ gi t 1 ≤ s.idx ∧ s.lost ≤ gi t 1 := fun t ht => by
    rcases List.mem_append.1 ht with ht | ht
    · exact h.tombs t ht
    · rw [List.mem_singleton.1 ht]
      exact ⟨hr.1, h1, Int.le_refl _, h.l1⟩
  have hO : ((s.tombs ++ [Za5 (gl (rd s.rows i) 0) s.idx]).map fun t => gi t 1).Pairwise (· ≤ ·) := by
    rw [List.map_append, List.pairwise_append]
    refine ⟨h.ord, List.pairwise_singleton _ _, fun a ha b hb => ?_⟩
    obtain ⟨t, ht, rfl⟩ := List.mem_map.1 ha
    rw [List.map_singleton, List.mem_singleton] at hb
    subst hb
    exact (h.tombs t ht).2.2.1
  have hN : ((Zae s.rows i).map kc ++ (s.tombs ++ [Za5 (gl (rd s.rows i) 0) s.idx]).map kc).Nodup := by
    have hp : (s.rows.map kc ++ s.tombs.map kc).Perm ((Zae s.rows i).map kc ++ (s.tombs ++ [Za5 (gl (rd s.rows i) 0) s.idx]).map kc) := by
      have h1 : (s.rows.map kc).Perm (kc (rd s.rows i) :: (Zae s.rows i).map kc) := (Ze2 hi).map kc
      refine (h1.append_right _).trans ?_
      rw [List.map_append, List.map_singleton, show kc (Za5 (gl (rd s.rows i) 0) s.idx) = kc (rd s.rows i) from rfl, ← List.append_assoc]
      exact (List.perm_append_singleton _ _).symm
    exact hp.nodup h.nd
  have hW : ∀ t ∈ s.tombs ++ [Za5 (gl (rd s.rows i) 0) s.idx], LW ZS (gl t 0) := fun t ht => by
    rcases List.mem_append.1 ht with ht | ht
    · exact h.wt t ht
    · rw [List.mem_singleton.1 ht]; exact (h.wr _ (Zu hi)).1
  have hlen : (s.tombs ++ [Za5 (gl (rd s.rows i) 0) s.idx]).length = s.tombs.length + 1 := by rw [List.length_append, List.length_singleton]
  have hrl := Zcz hi
  have hnr := h.nr
  unfold SD.bury
  by_cases hd : 10 < s.tombs.length + 1
  · rw [decide_eq_true hd]
    generalize s.tombs ++ [Za5 (gl (rd s.rows i) 0) s.idx] = T at *
    have hnt := h.nt
    cases T with
    | nil => simp at hlen
    | cons t0 T =>
      have e0 : rd (t0 :: T) 0 = t0 := rfl
      have hT0 := hT t0 (List.mem_cons_self ..)
      have hO' := List.pairwise_cons.1 (show (gi t0 1 :: T.map fun t => gi t 1).Pairwise (· ≤ ·) from hO)
      have l0 := h.l0
      refine ⟨h.i0, h.i1, ?_, ?_, by show (Zae s.rows i).length ≤ 20; omega, ?_, h.ns, h.nl, fun r hr => h.rows r (Zb9 hr), fun r hr => h.hold r (Zb9 hr), Asc.rm (R := fun a b => nlt (gl a 0) (gl b 0) = true) h.asc hi asc_tr, fun t ht => ?_, hO'.2, ?_, h.sess, h.sasc, h.lasts, h.lasc, fun r hr => h.wr r (Zb9 hr), fun t ht => hW t (List.mem_cons_of_mem _ ht)⟩
      · show 0 ≤ gi (rd (t0 :: T) 0) 1; rw [e0]; omega
      · show gi (rd (t0 :: T) 0) 1 ≤ s.idx; rw [e0]; omega
      · show T.length ≤ 10; rw [List.length_cons] at hlen; omega
      · have ht : t ∈ T := ht
        have := hT t (List.mem_cons_of_mem _ ht)
        refine ⟨this.1, this.2.1, this.2.2.1, ?_⟩
        show gi (rd (t0 :: T) 0) 1 ≤ gi t 1
        rw [e0]; exact hO'.1 _ (List.mem_map_of_mem ht)
      · show ((Zae s.rows i).map kc ++ T.map kc).Nodup
        rw [List.nodup_append] at hN ⊢
        refine ⟨hN.1, (List.nodup_cons.1 (show (kc t0 :: T.map kc).Nodup from hN.2.1)).2, fun a ha b hb => hN.2.2 a ha b (List.mem_cons_of_mem _ hb)⟩
  · rw [decide_eq_false hd]
    exact ⟨h.i0, h.i1, h.l0, h.l1, by show (Zae s.rows i).length ≤ 20; omega, by show (s.tombs ++ [_]).length ≤ 10; omega, h.ns, h.nl, fun r hr => h.rows r (Zb9 hr), fun r hr => h.hold r (Zb9 hr), Asc.rm (R := fun a b => nlt (gl a 0) (gl b 0) = true) h.asc hi asc_tr, hT, hO, hN, h.sess, h.sasc, h.lasts, h.lasc, fun r hr => h.wr r (Zb9 hr), hW⟩
theorem VS.setRow {x : Int} {s : SD} (h : VS x s) {j : Nat} (hj : j < s.rows.length) {v : List V} {t o : Int} (hv : v.length ≤ 20) (hw : LW ZS v) (ht : 1 ≤ t ∧ t ≤ s.idx) (ho : o = 0 ∨ o = x ∨ ∃ y ∈ s.sess, gi y 0 = o) :
    VS x { s with rows := s.rows.set j (ZU (gl (rd s.rows j) 0) v t o) } := by
  have hr := h.rows _ (Zu hj)
  have hwj := h.wr _ (Zu hj)
  refine ⟨h.i0, h.i1, h.l0, h.l1, by show (s.rows.set j _).length ≤ 20; rw [List.length_set]; exact h.nr, h.nt, h.ns, h.nl, fun r hr' => ?_, fun r hr' => ?_, ?_, h.tombs, h.ord, ?_, h.sess, h.sasc, h.lasts, h.lasc, fun r hr' => ?_, h.wt⟩
  · rcases List.mem_or_eq_of_mem_set hr' with hr' | hr'
    · exact h.rows r hr'
    · subst hr'; exact ⟨hr.1, hv, ht.1, ht.2⟩
  · rcases List.mem_or_eq_of_mem_set hr' with hr' | hr'
    · exact h.hold r hr'
    · subst hr'; exact ho
  · exact Asc.set (R := fun a b => nlt (gl a 0) (gl b 0) = true) h.asc (fun a ha => ha) (fun a ha => ha)
  · show ((s.rows.set j (ZU (gl (rd s.rows j) 0) v t o)).map kc ++ s.tombs.map kc).Nodup
    have e : (s.rows.set j (ZU (gl (rd s.rows j) 0) v t o)).map kc = s.rows.map kc := by
      rw [List.map_set]
      have : kc (ZU (gl (rd s.rows j) 0) v t o) = (s.rows.map kc)[j]'(by rw [List.length_map]; exact hj) := by rw [List.getElem_map, ← ZdT hj]; rfl
      rw [this, List.set_getElem_self]
    rw [e]; exact h.nd
  · rcases List.mem_or_eq_of_mem_set hr' with hr' | hr'
    · exact h.wr r hr'
    · subst hr'; exact ⟨hwj.1, hw⟩
theorem VS.put {x : Int} {s : SD} (h : VS x s) (h1 : 1 ≤ s.idx) {key val : List V} (hk : Za4 key = true) (hv : val.length ≤ 20) (hwk : LW ZS key) (hwv : LW ZS val) : VS x (s.put key val).2 := by
  unfold SD.put
  have hf := ZgI (k := key) h.asc
  cases hff : Zr (fun i => neq (gl (rd s.rows i) 0) key) 0 s.rows.length with
  | some j =>
    have hj := ZbL hff
    exact h.setRow hj hv hwv ⟨h1, Int.le_refl _⟩ (h.hold _ (Zu hj))
  | none =>
    by_cases h20 : 20 ≤ s.rows.length
    · rw [decide_eq_true h20]; exact h
    rw [decide_eq_false h20]
    have hle := Zhr (fun r => gl r 0) s.rows key
    have hsp := ZgE h.asc key
    have hno : ∀ r ∈ s.rows, kc r ≠ Zq key := fun r hr e => by
      obtain ⟨i, hi, rfl⟩ := ZbB hr
      have h9 : neq (gl (rd s.rows i) 0) key = false := firstI_none.1 hff i (Nat.zero_le _) (by omega)
      rw [ZcT, decide_eq_true (show Zq (gl (rd s.rows i) 0) = Zq key from e)] at h9; cases h9
    have hA : Asc (fun a b => nlt (gl a 0) (gl b 0) = true) (Z2 s.rows (ZaT s.rows key) (ZU key val s.idx 0)) := by
      rw [ZhZ h.asc]
      refine Asc.ins (R := fun a b => nlt (gl a 0) (gl b 0) = true) h.asc hle (fun h0 => ?_) (fun h0 => ?_)
      · have e : nlt (gl (rd s.rows (lbN (fun r => gl r 0) s.rows key - 1)) 0) key = _ := hsp (lbN (fun r => gl r 0) s.rows key - 1) (by omega)
        show nlt _ key = true
        rw [e, decide_eq_true (by omega)]
      · have e : nlt (gl (rd s.rows (lbN (fun r => gl r 0) s.rows key)) 0) key = _ := hsp _ h0
        rw [decide_eq_false (Nat.lt_irrefl _)] at e
        have e2 : neq (gl (rd s.rows (lbN (fun r => gl r 0) s.rows key)) 0) key = false := firstI_none.1 hff _ (Nat.zero_le _) (by omega)
        exact nlt_tri e e2
    have hl := ZcS (x := ZU key val s.idx 0) (Zgh s.rows key)
    have hnr := h.nr
    have hpr : ((Z2 s.rows (ZaT s.rows key) (ZU key val s.idx 0)).map kc).Perm (Zq key :: s.rows.map kc) := (ZfE _ _ _).map kc
    have rest : ∀ T : List V, (∀ t ∈ T, t ∈ s.tombs) → (T.map kc).Sublist (s.tombs.map kc) → (T.map fun t => gi t 1).Pairwise (· ≤ ·) → T.length ≤ 10 → (∀ t ∈ T, kc t ≠ Zq key) → VS x { s with rows := Z2 s.rows (ZaT s.rows key) (ZU key val s.idx 0), tombs := T } := fun T hT hS hO hTl hTk => by
      refine ⟨h.i0, h.i1, h.l0, h.l1, by show (Z2 s.rows _ _).length ≤ 20; omega, hTl, h.ns, h.nl, fun r hr => ?_, fun r hr => ?_, hA, fun t ht => h.tombs t (hT t ht), hO, ?_, h.sess, h.sasc, h.lasts, h.lasc, fun r hr => ?_, fun t ht => h.wt t (hT t ht)⟩
      · rcases Zf1 hr with rfl | hr
        · exact ⟨hk, hv, h1, Int.le_refl _⟩
        · exact h.rows r hr
      · rcases Zf1 hr with rfl | hr
        · exact .inl rfl
        · exact h.hold r hr
      · refine (hpr.append_right _).symm.nodup ?_
        rw [List.cons_append, List.nodup_cons]
        refine ⟨fun hm => ?_, ?_⟩
        · rcases List.mem_append.1 hm with hm | hm
          · obtain ⟨r, hr, e⟩ := List.mem_map.1 hm; exact hno r hr e
          · obtain ⟨t, ht, e⟩ := List.mem_map.1 hm; exact hTk t ht e
        · exact (List.Sublist.append (List.Sublist.refl _) hS).nodup h.nd
      · rcases Zf1 hr with rfl | hr
        · exact ⟨hwk, hwv⟩
        · exact h.wr r hr
    cases hft : Zr (fun i => neq (gl (rd s.tombs i) 0) key) 0 s.tombs.length with
    | none =>
      refine rest s.tombs (fun t ht => ht) (List.Sublist.refl _) h.ord h.nt fun t ht e => ?_
      obtain ⟨i, hi, rfl⟩ := ZbB ht
      have h9 : neq (gl (rd s.tombs i) 0) key = false := firstI_none.1 hft i (Nat.zero_le _) (by omega)
      rw [ZcT, decide_eq_true (show Zq (gl (rd s.tombs i) 0) = Zq key from e)] at h9; cases h9
    | some j =>
      have hj := ZbL hft
      have hq : neq (gl (rd s.tombs j) 0) key = true := (ZX hft).2.2.1
      rw [ZcT] at hq
      have hq : kc (rd s.tombs j) = Zq key := of_decide_eq_true hq
      have hsub : (Zae s.tombs j).Sublist s.tombs := by
        have : (s.tombs.take j ++ s.tombs.drop (j + 1)).Sublist (s.tombs.take j ++ s.tombs.drop j) := List.Sublist.append (List.Sublist.refl _) (List.drop_sublist_drop_left _ (Nat.le_succ _))
        rwa [List.take_append_drop] at this
      have hnt := h.nt
      refine rest (Zae s.tombs j) (fun t ht => Zb9 ht) (hsub.map kc) (List.Pairwise.sublist (hsub.map _) h.ord) (by rw [Zcz hj]; omega) fun t ht e => ?_
      have hp := (Ze2 hj).map kc
      have hn := hp.nodup h.ndT
      rw [List.map_cons, List.nodup_cons] at hn
      exact hn.1 (by rw [hq, ← e]; exact List.mem_map_of_mem ht)
end Go.Eng.R
open Go Go.Eng
namespace Go.Eng.R
set_option maxRecDepth 100000
theorem VS.shutL {id : Int} (h0 : id ≠ 0) (del : Bool) : ∀ (n k : Nat) (s : SD), VS id s → 1 ≤ s.idx → (∀ i, i < k → i < s.rows.length → gi (rd s.rows i) 3 ≠ id) → s.rows.length ≤ n + k →
    VS id (SD.shutL id del n k s) ∧ (∀ r ∈ (SD.shutL id del n k s).rows, gi r 3 ≠ id)
  | 0, k, s, h, h1, hk, hn => ⟨h, fun r hr => by
      obtain ⟨i, hi, rfl⟩ := ZbB hr
      have hi : i < s.rows.length := hi
      exact hk i (by omega) hi⟩
  | n + 1, k, s, h, h1, hk, hn => by
    rw [SD.shutL]
    by_cases hlt : k < s.rows.length
    case neg =>
      rw [dF hlt]
      exact ⟨h, fun r hr => by obtain ⟨i, hi, rfl⟩ := ZbB hr; have hi : i < s.rows.length := hi; exact hk i (by omega) hi⟩
    rw [dT hlt]
    by_cases hh : gi (rd s.rows k) 3 = id
    case neg =>
      rw [dF hh]
      refine VS.shutL h0 del n (k + 1) s h h1 (fun i hi hi2 => ?_) (by omega)
      rcases Nat.lt_or_ge i k with c | c
      · exact hk i c hi2
      · obtain rfl : i = k := by omega
        exact hh
    rw [dT hh]
    cases del with
    | true =>
      simp only [Bool.not_true, cond_false, cond_true]
      have hl := (Zh0 hlt h.nt).1
      have hi' : (s.bury k).idx = s.idx := by unfold SD.bury; cases decide (10 < s.tombs.length + 1) <;> rfl
      have hr' : (s.bury k).rows = Zae s.rows k := by unfold SD.bury; cases decide (10 < s.tombs.length + 1) <;> rfl
      refine VS.shutL h0 true n k (s.bury k) (h.bury h1 hlt) (by omega) (fun i hi hi2 => ?_) (by omega)
      rw [hr', rdRm (Nat.le_of_lt hlt), if_pos hi]
      exact hk i hi (by omega)
    | false =>
      simp only [Bool.not_true, cond_false]
      have hr := h.rows _ (Zu hlt)
      refine VS.shutL h0 false n (k + 1) _ (h.setRow hlt hr.2.1 (h.wr _ (Zu hlt)).2 ⟨h1, Int.le_refl _⟩ (.inl rfl)) h1 (fun i hi hi2 => ?_) (by show (s.rows.set k _).length ≤ _; rw [List.length_set]; omega)
      show gi (rd (s.rows.set k _) i) 3 ≠ id
      by_cases c : i = k
      · subst c; rw [Zbe hlt]; exact fun e => h0 e.symm
      · rw [ZdM c]; exact hk i (by omega) (by have : (s.rows.set k (ZU (gl (rd s.rows k) 0) (gl (rd s.rows k) 1) s.idx 0)).length = _ := List.length_set; omega)
theorem Zf2 (id : Int) (del : Bool) : ∀ (n k : Nat) (s : SD), (SD.shutL id del n k s).idx = s.idx
  | 0, _, _ => rfl
  | n + 1, k, s => by
    rw [SD.shutL]
    cases decide (k < s.rows.length) with
    | false => rfl
    | true =>
      cases decide (gi (rd s.rows k) 3 = id) with
      | false => exact Zf2 id del n (k + 1) s
      | true =>
        cases del with
        | true => exact (Zf2 id true n k (s.bury k)).trans (by unfold SD.bury; cases decide (10 < s.tombs.length + 1) <;> rfl)
        | false => exact Zf2 id false n (k + 1) _
theorem Zgi (id : Int) (del : Bool) : ∀ (n k : Nat) (s : SD), (SD.shutL id del n k s).sess = s.sess
  | 0, _, _ => rfl
  | n + 1, k, s => by
    rw [SD.shutL]
    cases decide (k < s.rows.length) with
    | false => rfl
    | true =>
      cases decide (gi (rd s.rows k) 3 = id) with
      | false => exact Zgi id del n (k + 1) s
      | true =>
        cases del with
        | true => exact (Zgi id true n k (s.bury k)).trans (by unfold SD.bury; cases decide (10 < s.tombs.length + 1) <;> rfl)
        | false => exact Zgi id false n (k + 1) _
theorem VS.lose {s : SD} (h : VS 0 s) {i : Nat} (hi : i < s.sess.length) : VS (gi (rd s.sess i) 0) { s with sess := Zae s.sess i } := by
  have hn := h.ns
  refine ⟨h.i0, h.i1, h.l0, h.l1, h.nr, h.nt, by show (Zae s.sess i).length ≤ 8; rw [Zcz hi]; omega, h.nl, h.rows, fun r hr => ?_, h.asc, h.tombs, h.ord, h.nd, fun y hy => h.sess y (Zb9 hy), Asc.rm (R := fun a b => gi a 0 < gi b 0) h.sasc hi (fun _ _ _ a b => Int.lt_trans a b), h.lasts, h.lasc, h.wr, h.wt⟩
  rcases h.hold r hr with e | e | ⟨y, hy, e⟩
  · exact .inl e
  · exact .inl e
  · rcases List.mem_cons.1 ((Ze2 hi).mem_iff.1 hy) with rfl | hy
    · exact .inr (.inl e.symm)
    · exact .inr (.inr ⟨y, hy, e⟩)
theorem VS.keep {x : Int} {s : SD} (h : VS x s) (hr : ∀ r ∈ s.rows, gi r 3 ≠ x) : VS 0 s :=
  ⟨h.i0, h.i1, h.l0, h.l1, h.nr, h.nt, h.ns, h.nl, h.rows, fun r hr' => by
    rcases h.hold r hr' with e | e | e
    · exact .inl e
    · exact absurd e (hr r hr')
    · exact .inr (.inr e), h.asc, h.tombs, h.ord, h.nd, h.sess, h.sasc, h.lasts, h.lasc, h.wr, h.wt⟩
theorem VS.shut {s : SD} (h : VS 0 s) (h1 : 1 ≤ s.idx) {i : Nat} (hi : i < s.sess.length) : VS 0 (s.shut i) ∧ (∀ r ∈ (s.shut i).rows, gi r 3 ≠ gi (rd s.sess i) 0) ∧ (s.shut i).sess = Zae s.sess i := by
  have hid := h.sess _ (Zu hi)
  obtain ⟨a, b⟩ := VS.shutL (id := gi (rd s.sess i) 0) (by omega) (gb (rd s.sess i) 1) s.rows.length 0 _ (h.lose hi) h1 (fun i hi => absurd hi (Nat.not_lt_zero _)) (Nat.le_refl _)
  exact ⟨a.keep b, b, Zgi _ _ _ _ _⟩
theorem VS.hold' {s : SD} (h : VS 0 s) {key : List V} {n : Int} (hn : ∃ y ∈ s.sess, gi y 0 = n) : VS 0 (s.hold key n) := by
  unfold SD.hold
  cases hf : Zr (fun i => neq (gl (rd s.rows i) 0) key) 0 s.rows.length with
  | none => exact h
  | some j =>
    have hj := ZbL hf
    have hr := h.rows _ (Zu hj)
    exact h.setRow hj hr.2.1 (h.wr _ (Zu hj)).2 hr.2.2 (.inr (.inr hn))
theorem Zh1 (s : SD) (key val : List V) : (s.put key val).2.sess = s.sess ∧ (s.put key val).2.idx = s.idx := by
  unfold SD.put
  cases Zr (fun i => neq (gl (rd s.rows i) 0) key) 0 s.rows.length with
  | some j => exact ⟨rfl, rfl⟩
  | none => cases decide (20 ≤ s.rows.length) <;> exact ⟨rfl, rfl⟩
structure OpV (k : Int) (ky vl : List V) (n : Int) : Prop where
  kk : 0 ≤ k ∧ k ≤ 7
  key : opK k → Za4 ky = true
  nk : ¬ opK k → ky.length = 0
  val : vl.length ≤ 20
  wk : LW ZS ky
  wv : LW ZS vl
theorem Zny {s : SD} {key : List V} {j : Nat} (h : s.look key = some j) : j < s.rows.length ∧ kc (rd s.rows j) = Zq key := by
  have hj := ZfF h
  refine ⟨hj, ?_⟩
  unfold SD.look at h
  cases hk : decide (0 < key.length) with
  | false => rw [hk] at h; cases h
  | true =>
    rw [hk] at h
    have h2 := (ZX h).2.2.1
    have h2 : neq (gl (rd s.rows j) 0) key = true := h2
    rw [ZcT] at h2
    exact of_decide_eq_true h2
theorem Zh2 {s : SD} {n : Int} {i : Nat} (h : s.sessAt n = some i) : i < s.sess.length ∧ gi (rd s.sess i) 0 = n := by
  unfold SD.sessAt at h
  obtain ⟨-, h1, h2, -⟩ := ZX h
  exact ⟨by omega, of_decide_eq_true h2⟩
theorem VS.do' {s : SD} (h : VS 0 s) (h1 : 1 ≤ s.idx) (hss : ∀ y ∈ s.sess, gi y 0 < s.idx) {k : Int} {key val : List V} {n : Int} (ho : OpV k key val n) :
    VS 0 (s.do' k key val n).2 ∧ 0 ≤ (s.do' k key val n).1 ∧ (s.do' k key val n).1 ≤ 4 ∧ (s.do' k key val n).2.idx = s.idx ∧ ((s.do' k key val n).1 ≠ 0 → (s.do' k key val n).2 = s) := by
  have z4 : (0 : Int) ≤ 4 ∧ (4 : Int) ≤ 4 := by decide
  have same : ∀ c : Int, 0 ≤ c → c ≤ 4 → VS 0 (c, s).2 ∧ 0 ≤ (c, s).1 ∧ (c, s).1 ≤ 4 ∧ (c, s).2.idx = s.idx ∧ ((c, s).1 ≠ 0 → (c, s).2 = s) := fun c a b => ⟨h, a, b, rfl, fun _ => rfl⟩
  have well : ∀ s' : SD, VS 0 s' → s'.idx = s.idx → VS 0 ((0 : Int), s').2 ∧ 0 ≤ ((0 : Int), s').1 ∧ ((0 : Int), s').1 ≤ 4 ∧ ((0 : Int), s').2.idx = s.idx ∧ (((0 : Int), s').1 ≠ 0 → ((0 : Int), s').2 = s) := fun s' a e => ⟨a, Int.le_refl _, by show (0 : Int) ≤ 4; decide, e, fun c => absurd rfl c⟩
  have hpf : (s.put key val).1 = false → (s.put key val).2 = s := fun e => by
    revert e
    unfold SD.put
    cases Zr (fun i => neq (gl (rd s.rows i) 0) key) 0 s.rows.length with
    | some j => intro e; cases e
    | none => cases decide (20 ≤ s.rows.length) with
      | true => intro _; rfl
      | false => intro e; cases e
  have hps : opK k → VS 0 (s.puts key val).2 ∧ 0 ≤ (s.puts key val).1 ∧ (s.puts key val).1 ≤ 4 ∧ (s.puts key val).2.idx = s.idx ∧ ((s.puts key val).1 ≠ 0 → (s.puts key val).2 = s) := fun hk => by
    have hp := h.put h1 (ho.key hk) ho.val ho.wk ho.wv
    refine ⟨hp, ?_, ?_, (Zh1 s key val).2, ?_⟩
    · show 0 ≤ ZdB (s.put key val).1; unfold ZdB; cases (s.put key val).1 <;> decide
    · show ZdB (s.put key val).1 ≤ 4; unfold ZdB; cases (s.put key val).1 <;> decide
    · intro hc
      refine hpf ?_
      cases hb : (s.put key val).1 with
      | false => rfl
      | true => exact absurd (show ZdB (s.put key val).1 = 0 by rw [hb]; rfl) hc
  unfold SD.do'
  by_cases h1' : k = 1
  · rw [dT h1']; exact hps (.inl h1')
  rw [dF h1']
  by_cases h2 : k = 2
  · rw [dT h2]
    simp only [cond_false, cond_true]
    cases decide ((match s.look key with | some j => gi (rd s.rows j) 2 | none => 0) = n) with
    | true => exact hps (.inr (.inl h2))
    | false => exact same 3 (by decide) (by decide)
  rw [dF h2]
  by_cases h3 : k = 3
  · rw [dT h3]
    simp only [cond_false, cond_true]
    cases hl : s.look key with
    | none => exact same 1 (by decide) (by decide)
    | some j => exact well _ (h.bury h1 (ZfF hl)) (by unfold SD.bury; cases decide (10 < s.tombs.length + 1) <;> rfl)
  rw [dF h3]
  by_cases h4 : k = 4
  · rw [dT h4]
    simp only [cond_false, cond_true]
    by_cases h8 : 8 ≤ s.sess.length
    · rw [dT h8]; exact same 4 (by decide) (by decide)
    · rw [dF h8]
      refine well _ ⟨h.i0, h.i1, h.l0, h.l1, h.nr, h.nt, by show (s.sess ++ [_]).length ≤ 8; rw [List.length_append, List.length_singleton]; omega, h.nl, h.rows, fun r hr => ?_, h.asc, h.tombs, h.ord, h.nd, fun y hy => ?_, Asc.snoc (R := fun a b => gi a 0 < gi b 0) h.sasc hss, h.lasts, h.lasc, h.wr, h.wt⟩ rfl
      · rcases h.hold r hr with e | e | ⟨y, hy, e⟩
        · exact .inl e
        · exact .inl e
        · exact .inr (.inr ⟨y, List.mem_append_left _ hy, e⟩)
      · rcases List.mem_append.1 hy with hy | hy
        · exact h.sess y hy
        · rw [List.mem_singleton.1 hy]; exact ⟨h1, Int.le_refl _⟩
  rw [dF h4]
  by_cases h5 : k = 5
  · rw [dT h5]
    simp only [cond_false, cond_true]
    cases hf : s.sessAt n with
    | none => exact same 1 (by decide) (by decide)
    | some i =>
      have hi := (Zh2 hf).1
      exact well _ (h.shut h1 hi).1 (Zf2 _ _ _ _ _)
  rw [dF h5]
  by_cases h6 : k = 6
  · rw [dT h6]
    simp only [cond_false, cond_true]
    cases hf : s.sessAt n with
    | none => exact same 1 (by decide) (by decide)
    | some i =>
      obtain ⟨hi, hin⟩ := Zh2 hf
      have hp := hps (.inr (.inr (.inr (.inl h6))))
      have fin : VS 0 (bif (s.put key val).1 then ((0 : Int), (s.put key val).2.hold key n) else (4, (s.put key val).2)).2 ∧ 0 ≤ (bif (s.put key val).1 then ((0 : Int), (s.put key val).2.hold key n) else (4, (s.put key val).2)).1 ∧ (bif (s.put key val).1 then ((0 : Int), (s.put key val).2.hold key n) else (4, (s.put key val).2)).1 ≤ 4 ∧ (bif (s.put key val).1 then ((0 : Int), (s.put key val).2.hold key n) else (4, (s.put key val).2)).2.idx = s.idx ∧ ((bif (s.put key val).1 then ((0 : Int), (s.put key val).2.hold key n) else (4, (s.put key val).2)).1 ≠ 0 → (bif (s.put key val).1 then ((0 : Int), (s.put key val).2.hold key n) else (4, (s.put key val).2)).2 = s) := by
        cases hb : (s.put key val).1 with
        | true =>
          refine well _ (VS.hold' hp.1 ⟨rd s.sess i, ?_, hin⟩) ?_
          · show rd s.sess i ∈ (s.put key val).2.sess
            rw [(Zh1 s key val).1]; exact Zu hi
          · refine Eq.trans ?_ (Zh1 s key val).2
            unfold SD.hold
            cases Zr (fun i => neq (gl (rd (s.put key val).2.rows i) 0) key) 0 (s.put key val).2.rows.length <;> rfl
        | false => rw [hpf hb]; exact same 4 (by decide) (by decide)
      cases s.look key with
      | none => exact fin
      | some j =>
        simp only []
        cases !decide (gi (rd s.rows j) 3 = 0) && !decide (gi (rd s.rows j) 3 = n) with
        | true => exact same 2 (by decide) (by decide)
        | false => exact fin
  rw [dF h6]
  by_cases h7 : k = 7
  · rw [dT h7]
    simp only [cond_false, cond_true]
    cases hl : s.look key with
    | none => exact same 1 (by decide) (by decide)
    | some j =>
      have hj := ZfF hl
      have hr := h.rows _ (Zu hj)
      simp only []
      cases decide (gi (rd s.rows j) 3 = n) with
      | true => exact well _ (h.setRow hj hr.2.1 (h.wr _ (Zu hj)).2 ⟨h1, Int.le_refl _⟩ (.inl rfl)) rfl
      | false => exact same 1 (by decide) (by decide)
  rw [dF h7]
  exact same 0 (by decide) (by decide)
def CmdV (c : V) : Prop := gi c 0 < 0 ∨ (0 ≤ gi c 0 ∧ gi c 0 ≤ 3 ∧ 1 ≤ gi c 1 ∧ gi c 1 ≤ 1000000 ∧ OpV (gi c 2) (gl c 3) (gl c 4) (gi c 5))
theorem VS.up {s : SD} (h : VS 0 s) (hi : s.idx < 1000000) : VS 0 s.up := by
  have e : s.up.idx = s.idx + 1 := rfl
  have i0 := h.i0
  have l1 := h.l1
  refine ⟨by omega, by omega, h.l0, by show s.lost ≤ s.idx + 1; omega, h.nr, h.nt, h.ns, h.nl, fun r hr => ?_, h.hold, h.asc, fun t ht => ?_, h.ord, h.nd, fun y hy => ?_, h.sasc, fun l hl => ?_, h.lasc, h.wr, h.wt⟩
  · obtain ⟨a, b, c, d⟩ := h.rows r hr; exact ⟨a, b, c, by omega⟩
  · obtain ⟨a, b, c, d⟩ := h.tombs t ht; exact ⟨a, b, by omega, d⟩
  · obtain ⟨a, b⟩ := h.sess y hy; exact ⟨a, by omega⟩
  · obtain ⟨a1, a2, a3, a4, a5, a6, a7, a8⟩ := h.lasts l hl; exact ⟨a1, a2, a3, a4, a5, a6, a7, by omega⟩
theorem VS.withLasts {s : SD} (h : VS 0 s) {l : List V} (h1 : ∀ x ∈ l, 0 ≤ gi x 0 ∧ gi x 0 ≤ 3 ∧ 1 ≤ gi x 1 ∧ gi x 1 ≤ 1000000 ∧ 0 ≤ gi x 2 ∧ gi x 2 ≤ 5 ∧ 1 ≤ gi x 3 ∧ gi x 3 ≤ s.idx) (h2 : AscI l) : VS 0 { s with lasts := l } :=
  ⟨h.i0, h.i1, h.l0, h.l1, h.nr, h.nt, h.ns, ascI_few h2 fun x hx => ⟨(h1 x hx).1, (h1 x hx).2.1⟩, h.rows, h.hold, h.asc, h.tombs, h.ord, h.nd, h.sess, h.sasc, h1, h2, h.wr, h.wt⟩
theorem ZiO {l : List V} (h : AscI l) {c : Int} (hn : ZgH l c = false) {i : Nat} (hi : i < l.length) (he : lbI l c ≤ i) : c < gi (rd l i) 0 := by
  have e1 := ZfG h c i hi
  rw [decide_eq_false (show ¬ i < lbI l c by omega)] at e1
  have e1 : ¬ gi (rd l i) 0 < c := of_decide_eq_false e1
  have hlt : lbI l c < l.length := by omega
  have e2 : gi (rd l (lbI l c)) 0 ≠ c := fun e => by
    unfold ZgH at hn
    rw [decide_eq_true hlt, decide_eq_true e] at hn; cases hn
  have e3 := ZfG h c _ hlt
  rw [decide_eq_false (Nat.lt_irrefl _)] at e3
  have e3 : ¬ gi (rd l (lbI l c)) 0 < c := of_decide_eq_false e3
  rcases Nat.lt_or_ge (lbI l c) i with d | d
  · have := h.lt _ _ d hi; omega
  · obtain rfl : i = lbI l c := by omega
    omega
theorem Zc1 {s : SD} (h : VS 0 s) (hi : s.idx < 1000000) {c : V} (hc : CmdV c) :
    (s.apply c = ((0, s.idx + 1), s.up) ∧ gi c 0 < 0) ∨
    (0 ≤ gi c 0 ∧ gi c 0 ≤ 3 ∧ ∃ l ∈ s.lasts, gi l 0 = gi c 0 ∧ gi l 1 = gi c 1 ∧ s.apply c = ((gi l 2, gi l 3), s.up)) ∨
    (0 ≤ gi c 0 ∧ gi c 0 ≤ 3 ∧ ∃ l ∈ s.lasts, gi l 0 = gi c 0 ∧ gi c 1 < gi l 1 ∧ s.apply c = ((5, s.idx + 1), s.up)) ∨
    (0 ≤ gi c 0 ∧ gi c 0 ≤ 3 ∧ OpV (gi c 2) (gl c 3) (gl c 4) (gi c 5) ∧ ∃ L : List V, s.apply c = (((s.up.do' (gi c 2) (gl c 3) (gl c 4) (gi c 5)).1, s.idx + 1), { (s.up.do' (gi c 2) (gl c 3) (gl c 4) (gi c 5)).2 with lasts := L }) ∧ AscI L ∧
      (∀ l, l ∈ L ↔ l = Zgg (gi c 0) (gi c 1) (s.up.do' (gi c 2) (gl c 3) (gl c 4) (gi c 5)).1 (s.idx + 1) ∨ (l ∈ s.lasts ∧ gi l 0 ≠ gi c 0)) ∧ (∀ l ∈ s.lasts, gi l 0 = gi c 0 → gi l 1 < gi c 1)) := by
  have hlen := Zli s.lasts (gi c 0)
  by_cases h0 : gi c 0 < 0
  · refine .inl ⟨?_, h0⟩
    unfold SD.apply; rw [dT h0]; rfl
  rcases hc with hc | ⟨c0, c3, r1, r2, ho⟩
  · exact absurd hc h0
  have hsp := ZfG h.lasc (gi c 0)
  unfold SD.apply
  rw [dF h0, Zlj h.lasc]
  simp only [cond_false]
  rw [show (decide (lbI s.lasts (gi c 0) < s.lasts.length) && decide (gi (rd s.lasts (lbI s.lasts (gi c 0))) 0 = gi c 0)) = ZgH s.lasts (gi c 0) from rfl]
  cases hh : ZgH s.lasts (gi c 0) with
  | true =>
    have hh' := hh
    unfold ZgH at hh'
    rw [Bool.and_eq_true] at hh'
    have hlt : lbI s.lasts (gi c 0) < s.lasts.length := of_decide_eq_true hh'.1
    have he : gi (rd s.lasts (lbI s.lasts (gi c 0))) 0 = gi c 0 := of_decide_eq_true hh'.2
    generalize lbI s.lasts (gi c 0) = p at *
    have uniq : ∀ l ∈ s.lasts, gi l 0 = gi c 0 → l = rd s.lasts p := fun l hl e => by
      obtain ⟨i, hi, rfl⟩ := ZbB hl
      rcases Nat.lt_trichotomy i p with d | d | d
      · have := h.lasc.lt _ _ d hlt; omega
      · rw [d]
      · have := h.lasc.lt _ _ d hi; omega
    by_cases e1 : gi (rd s.lasts p) 1 = gi c 1
    · rw [dT e1]
      exact .inr (.inl ⟨c0, c3, _, Zu hlt, he, e1, rfl⟩)
    rw [dF e1]
    by_cases e2 : gi c 1 < gi (rd s.lasts p) 1
    · rw [dT e2]
      exact .inr (.inr (.inl ⟨c0, c3, _, Zu hlt, he, e2, rfl⟩))
    rw [dF e2]
    refine .inr (.inr (.inr ⟨c0, c3, ho, _, rfl, ?_, fun l => ?_, fun l hl e => ?_⟩))
    · exact Asc.set (R := fun a b => gi a 0 < gi b 0) h.lasc (fun a ha => ha) (fun a ha => ha)
    · rw [he, (Znx hlt _).mem_iff, List.mem_cons]
      have hp := Ze2 hlt
      refine or_congr Iff.rfl ⟨fun hl => ⟨Zb9 hl, fun e => ?_⟩, fun ⟨hl, hne⟩ => ?_⟩
      · obtain ⟨i, hi, rfl⟩ := ZbB hl
        have hrl := Zcz hlt
        rw [rdRm (Nat.le_of_lt hlt)] at e
        by_cases d : i < p
        · rw [if_pos d] at e
          have := h.lasc.lt _ _ d hlt; omega
        · rw [if_neg d] at e
          have := h.lasc.lt (i + 1) p (by omega) (by omega); omega
      · rcases List.mem_cons.1 (hp.mem_iff.1 hl) with rfl | hl
        · exact absurd he hne
        · exact hl
    · rw [uniq l hl e]; omega
  | false =>
    refine .inr (.inr (.inr ⟨c0, c3, ho, _, rfl, ?_, fun l => ?_, fun l hl e => ?_⟩))
    · refine Asc.ins (R := fun a b => gi a 0 < gi b 0) h.lasc hlen (fun h0 => ?_) (fun h0 => ?_)
      · have := hsp (lbI s.lasts (gi c 0) - 1) (by omega)
        rw [decide_eq_true (show lbI s.lasts (gi c 0) - 1 < lbI s.lasts (gi c 0) by omega)] at this
        exact of_decide_eq_true this
      · exact ZiO h.lasc hh h0 (Nat.le_refl _)
    · rw [(ZfE _ _ _).mem_iff, List.mem_cons]
      refine or_congr Iff.rfl ⟨fun hl => ⟨hl, fun e => ?_⟩, fun hl => hl.1⟩
      obtain ⟨i, hi, rfl⟩ := ZbB hl
      rcases Nat.lt_or_ge i (lbI s.lasts (gi c 0)) with d | d
      · have := hsp i hi
        rw [decide_eq_true d] at this
        have := of_decide_eq_true this; omega
      · have := ZiO h.lasc hh hi d; omega
    · obtain ⟨i, hi, rfl⟩ := ZbB hl
      rcases Nat.lt_or_ge i (lbI s.lasts (gi c 0)) with d | d
      · have := hsp i hi
        rw [decide_eq_true d] at this
        have := of_decide_eq_true this; omega
      · have := ZiO h.lasc hh hi d; omega
theorem VS.apply {s : SD} (h : VS 0 s) (hi : s.idx < 1000000) {c : V} (hc : CmdV c) : VS 0 (s.apply c).2 ∧ (s.apply c).2.idx = s.idx + 1 ∧ 1 ≤ (s.apply c).1.2 ∧ (s.apply c).1.2 ≤ s.idx + 1 := by
  have i0 := h.i0
  rcases Zc1 h hi hc with ⟨e, -⟩ | ⟨-, -, l, hl, -, -, e⟩ | ⟨-, -, l, hl, -, -, e⟩ | ⟨c0, c3, ho, L, e, hA, hL, -⟩
  · rw [e]; exact ⟨h.up hi, rfl, by show 1 ≤ s.idx + 1; omega, Int.le_refl _⟩
  · rw [e]
    have := h.lasts l hl
    exact ⟨h.up hi, rfl, by show 1 ≤ gi l 3; omega, by show gi l 3 ≤ s.idx + 1; omega⟩
  · rw [e]; exact ⟨h.up hi, rfl, by show 1 ≤ s.idx + 1; omega, Int.le_refl _⟩
  · rcases hc with hc | ⟨-, -, r1, r2, -⟩
    · omega
    obtain ⟨d1, d2, d3, d4, -⟩ := (h.up hi).do' (show 1 ≤ s.idx + 1 by omega) (fun y hy => by have := h.sess y hy; show gi y 0 < s.idx + 1; omega) ho
    have d4 : _ = s.idx + 1 := d4
    rw [e]
    refine ⟨d1.withLasts (fun x hx => ?_) hA, d4, by show 1 ≤ s.idx + 1; omega, Int.le_refl _⟩
    rcases (hL x).1 hx with rfl | ⟨hx, -⟩
    · refine ⟨c0, c3, r1, r2, d2, ?_, ?_, ?_⟩
      · exact Int.le_trans d3 (by decide)
      · show 1 ≤ s.idx + 1; omega
      · show s.idx + 1 ≤ _; omega
    · obtain ⟨a1, a2, a3, a4, a5, a6, a7, a8⟩ := h.lasts x hx
      exact ⟨a1, a2, a3, a4, a5, a6, a7, by omega⟩
end Go.Eng.R
open Go Go.Eng
namespace Go.Eng.R
set_option maxRecDepth 100000
def SD.view (s : SD) (k : List Int) : Int × Bool × List V := match fnd s.rows k with
  | some r => (gi r 2, true, gl r 1)
  | none => match fnd s.tombs k with | some t => (gi t 1, false, []) | none => (s.lost, false, [])
theorem ZcA {s : SD} {k : List Int} {r : V} (h : fnd s.rows k = some r) : s.view k = (gi r 2, true, gl r 1) := by unfold SD.view; rw [h]
theorem Zdl {s : SD} {k : List Int} {t : V} (h : fnd s.rows k = none) (h2 : fnd s.tombs k = some t) : s.view k = (gi t 1, false, []) := by unfold SD.view; rw [h, h2]
theorem Zgm {s : SD} {k : List Int} (h : fnd s.rows k = none) (h2 : fnd s.tombs k = none) : s.view k = (s.lost, false, []) := by unfold SD.view; rw [h, h2]
theorem Zji {x : Int} {s : SD} (h : VS x s) (k : List Int) : (s.view k).1 ≤ s.idx := by
  unfold SD.view
  cases hr : fnd s.rows k with
  | some r => exact (h.rows r (Zec hr).1).2.2.2
  | none =>
    cases ht : fnd s.tombs k with
    | some t => exact (h.tombs t (Zec ht).1).2.2.1
    | none => exact h.l1
def Tr (n : Int) (a b : Int × Bool × List V) : Prop := b = a ∨ b.1 = n ∨ (a.2 = (false, []) ∧ b.2 = (false, []) ∧ a.1 ≤ b.1)
theorem Tr.trans {n : Int} {a b c : Int × Bool × List V} (h1 : Tr n a b) (h2 : Tr n b c) (hc : c.1 ≤ n) : Tr n a c := by
  rcases h2 with rfl | h2 | ⟨e1, e2, h2⟩
  · exact h1
  · exact .inr (.inl h2)
  · rcases h1 with rfl | h1 | ⟨f1, f2, h1⟩
    · exact .inr (.inr ⟨e1, e2, h2⟩)
    · exact .inr (.inl (by omega))
    · exact .inr (.inr ⟨f1, e2, by omega⟩)
theorem ZiP (s : SD) (i : Nat) : (s.bury i).rows = Zae s.rows i := by unfold SD.bury; cases decide (10 < s.tombs.length + 1) <;> rfl
theorem Zj1 (s : SD) (i : Nat) : (s.bury i).idx = s.idx := by unfold SD.bury; cases decide (10 < s.tombs.length + 1) <;> rfl
theorem Znz {l : List V} {x : V} {k : List Int} (h : ∀ r ∈ l, kc r ≠ kc x) : fnd (l ++ [x]) k = bif decide (kc x = k) then some x else fnd l k := by
  unfold fnd
  rw [List.find?_append]
  by_cases e : kc x = k
  · rw [decide_eq_true e]
    have : l.find? (fun x => decide (kc x = k)) = none := Zeb fun r hr => by rw [← e]; exact h r hr
    rw [this, List.find?_cons, decide_eq_true e]; rfl
  · rw [decide_eq_false e, List.find?_cons, decide_eq_false e]
    cases l.find? (fun x => decide (kc x = k)) <;> rfl
theorem ZgZ {x : Int} {s : SD} (h : VS x s) {i : Nat} (hi : i < s.rows.length) (k : List Int) :
    (kc (rd s.rows i) = k → (s.bury i).view k = (s.idx, false, [])) ∧ (kc (rd s.rows i) ≠ k → Tr s.idx (s.view k) ((s.bury i).view k)) := by
  have hap : ∀ r ∈ s.tombs, kc r ≠ kc (Za5 (gl (rd s.rows i) 0) s.idx) := fun t ht e => h.apart (Zu hi) ht e.symm
  have hfT : ∀ k, fnd (s.tombs ++ [Za5 (gl (rd s.rows i) 0) s.idx]) k = bif decide (kc (rd s.rows i) = k) then some (Za5 (gl (rd s.rows i) 0) s.idx) else fnd s.tombs k := fun k => Znz hap
  have hfR : fnd (s.bury i).rows k = bif decide (kc (rd s.rows i) = k) then none else fnd s.rows k := by rw [ZiP]; exact ZiN h.ndR hi k
  have hnT : ((s.tombs ++ [Za5 (gl (rd s.rows i) 0) s.idx]).map kc).Nodup := by
    rw [List.map_append, List.map_singleton, List.nodup_append]
    refine ⟨h.ndT, by simp, fun a ha b hb e => ?_⟩
    obtain ⟨t, ht, rfl⟩ := List.mem_map.1 ha
    rw [List.mem_singleton.1 hb] at e
    exact hap t ht e
  by_cases hd : 10 < s.tombs.length + 1
  · have e1 : (s.bury i).tombs = (s.tombs ++ [Za5 (gl (rd s.rows i) 0) s.idx]).drop 1 := by unfold SD.bury; rw [decide_eq_true hd]; rfl
    have e2 : (s.bury i).lost = gi (rd (s.tombs ++ [Za5 (gl (rd s.rows i) 0) s.idx]) 0) 1 := by unfold SD.bury; rw [decide_eq_true hd]; rfl
    cases hT : s.tombs with
    | nil => rw [hT] at hd; simp at hd
    | cons t0 T =>
      rw [hT] at hfT e1 e2 hnT hap
      have e1 : (s.bury i).tombs = T ++ [Za5 (gl (rd s.rows i) 0) s.idx] := e1
      have e2 : (s.bury i).lost = gi t0 1 := e2
      have hfc : ∀ k, fnd ((t0 :: T) ++ [Za5 (gl (rd s.rows i) 0) s.idx]) k = bif decide (kc t0 = k) then some t0 else fnd (T ++ [Za5 (gl (rd s.rows i) 0) s.idx]) k := fun k => ZfH t0 _ k
      have hn0 : ∀ r ∈ T ++ [Za5 (gl (rd s.rows i) 0) s.idx], kc r ≠ kc t0 := fun r hr e => (List.nodup_cons.1 (show (kc t0 :: (T ++ [Za5 (gl (rd s.rows i) 0) s.idx]).map kc).Nodup from hnT)).1 (by rw [← e]; exact List.mem_map_of_mem hr)
      refine ⟨fun hk => ?_, fun hk => ?_⟩
      · rw [decide_eq_true hk] at hfR
        have h3 := hfT k
        rw [hfc k, decide_eq_true hk, decide_eq_false (fun e => hap t0 (List.mem_cons_self ..) (by rw [e]; exact hk.symm))] at h3
        rw [Zdl hfR (by rw [e1]; exact h3)]; rfl
      · rw [decide_eq_false hk] at hfR
        have hfR : fnd (s.bury i).rows k = fnd s.rows k := hfR
        have h3 := hfT k
        rw [hfc k, decide_eq_false hk] at h3
        have h3 : (bif decide (kc t0 = k) then some t0 else fnd (T ++ [Za5 (gl (rd s.rows i) 0) s.idx]) k) = fnd (t0 :: T) k := h3
        cases hr : fnd s.rows k with
        | some r => rw [ZcA hr, ZcA (hfR.trans hr)]; exact .inl rfl
        | none =>
          rw [hr] at hfR
          by_cases h0 : kc t0 = k
          · rw [decide_eq_true h0] at h3
            have h4 : fnd (T ++ [Za5 (gl (rd s.rows i) 0) s.idx]) k = none := Zeb fun r hr => by rw [← h0]; exact hn0 r hr
            rw [Zgm hfR (by rw [e1]; exact h4), e2, Zdl hr (by rw [hT]; exact h3.symm)]; exact .inl rfl
          · rw [decide_eq_false h0] at h3
            have h3 : fnd (T ++ [Za5 (gl (rd s.rows i) 0) s.idx]) k = fnd (t0 :: T) k := h3
            cases ht : fnd (t0 :: T) k with
            | some t => rw [Zdl hfR (by rw [e1, h3]; exact ht), Zdl hr (by rw [hT]; exact ht)]; exact .inl rfl
            | none =>
              rw [Zgm hfR (by rw [e1, h3]; exact ht), Zgm hr (by rw [hT]; exact ht), e2]
              exact .inr (.inr ⟨rfl, rfl, (h.tombs t0 (by rw [hT]; exact List.mem_cons_self ..)).2.2.2⟩)
  · have e1 : (s.bury i).tombs = s.tombs ++ [Za5 (gl (rd s.rows i) 0) s.idx] := by unfold SD.bury; rw [decide_eq_false hd]; rfl
    have e2 : (s.bury i).lost = s.lost := by unfold SD.bury; rw [decide_eq_false hd]; rfl
    have h3 := hfT k
    rw [← e1] at h3
    refine ⟨fun hk => ?_, fun hk => ?_⟩
    · rw [decide_eq_true hk] at hfR h3
      rw [Zdl hfR h3]; rfl
    · rw [decide_eq_false hk] at hfR h3
      refine .inl ?_
      unfold SD.view
      rw [show fnd (s.bury i).rows k = fnd s.rows k from hfR, show fnd (s.bury i).tombs k = fnd s.tombs k from h3, e2]
theorem Zdt {x : Int} {s : SD} (h : VS x s) {j : Nat} (hj : j < s.rows.length) (v : List V) (t o : Int) (k : List Int) :
    fnd (s.rows.set j (ZU (gl (rd s.rows j) 0) v t o)) k = bif decide (kc (rd s.rows j) = k) then some (ZU (gl (rd s.rows j) 0) v t o) else fnd s.rows k := fnd_set h.ndR hj (x := ZU (gl (rd s.rows j) 0) v t o) rfl k
theorem Zex {x : Int} {s : SD} (h : VS x s) {j : Nat} (hj : j < s.rows.length) (v : List V) (t o : Int) (k : List Int) :
    ({ s with rows := s.rows.set j (ZU (gl (rd s.rows j) 0) v t o) } : SD).view k = bif decide (kc (rd s.rows j) = k) then (t, true, v) else s.view k := by
  have e := Zdt h hj v t o k
  by_cases hk : kc (rd s.rows j) = k
  · rw [decide_eq_true hk] at e ⊢
    exact ZcA (s := { s with rows := s.rows.set j (ZU (gl (rd s.rows j) 0) v t o) }) e
  · rw [decide_eq_false hk] at e ⊢
    unfold SD.view
    rw [show fnd ({ s with rows := s.rows.set j (ZU (gl (rd s.rows j) 0) v t o) } : SD).rows k = fnd s.rows k from e]; rfl
theorem ZeT {l key : List V} {j : Nat} (h : Zr (fun i => neq (gl (rd l i) 0) key) 0 l.length = some j) : kc (rd l j) = Zq key := by
  have h2 : neq (gl (rd l j) 0) key = true := (ZX h).2.2.1
  rw [ZcT] at h2
  exact of_decide_eq_true h2
theorem Zeq {l key : List V} (h : Zr (fun i => neq (gl (rd l i) 0) key) 0 l.length = none) : ∀ r ∈ l, kc r ≠ Zq key := fun r hr e => by
  obtain ⟨i, hi, rfl⟩ := ZbB hr
  have h9 : neq (gl (rd l i) 0) key = false := firstI_none.1 h i (Nat.zero_le _) (by omega)
  rw [ZcT, decide_eq_true (show Zq (gl (rd l i) 0) = Zq key from e)] at h9; cases h9
theorem Zj2 {x : Int} {s : SD} (h : VS x s) {key val : List V} (hp : (s.put key val).1 = true) :
    (∃ r, fnd (s.put key val).2.rows (Zq key) = some r ∧ gi r 2 = s.idx ∧ gl r 1 = val ∧ gi r 3 = (match fnd s.rows (Zq key) with | some q => gi q 3 | none => 0)) ∧
    ∀ k, k ≠ Zq key → fnd (s.put key val).2.rows k = fnd s.rows k ∧ (s.put key val).2.view k = s.view k := by
  revert hp
  unfold SD.put
  cases hf : Zr (fun i => neq (gl (rd s.rows i) 0) key) 0 s.rows.length with
  | some j =>
    intro _
    have hj := ZbL hf
    have hc := ZeT hf
    refine ⟨⟨ZU (gl (rd s.rows j) 0) val s.idx (gi (rd s.rows j) 3), ?_, rfl, rfl, ?_⟩, fun k hk => ?_⟩
    · show fnd (s.rows.set j _) _ = _
      rw [Zdt h hj, decide_eq_true hc]; rfl
    · rw [← hc, Zfs h.ndR hj]; rfl
    · show fnd (s.rows.set j _) _ = _ ∧ ({ s with rows := s.rows.set j (ZU (gl (rd s.rows j) 0) val s.idx (gi (rd s.rows j) 3)) } : SD).view k = _
      rw [Zdt h hj, Zex h hj, decide_eq_false (by rw [hc]; exact Ne.symm hk)]
      exact ⟨rfl, rfl⟩
  | none =>
    by_cases h20 : 20 ≤ s.rows.length
    · rw [decide_eq_true h20]; intro hp; cases hp
    rw [decide_eq_false h20]
    intro _
    have hno := Zeq hf
    have hnR : ((ZU key val s.idx 0 :: s.rows).map kc).Nodup := by
      rw [List.map_cons, List.nodup_cons]
      refine ⟨fun hm => ?_, h.ndR⟩
      obtain ⟨r, hr, e⟩ := List.mem_map.1 hm
      exact hno r hr e
    have hR := fun k => fnd_ins (x := ZU key val s.idx 0) hnR (ZaT s.rows key) k
    have fin : ∀ T : List V, (∀ k, k ≠ Zq key → fnd T k = fnd s.tombs k) →
        (∃ r, fnd ({ s with rows := Z2 s.rows (ZaT s.rows key) (ZU key val s.idx 0), tombs := T } : SD).rows (Zq key) = some r ∧ gi r 2 = s.idx ∧ gl r 1 = val ∧ gi r 3 = (match fnd s.rows (Zq key) with | some q => gi q 3 | none => 0)) ∧
        ∀ k, k ≠ Zq key → fnd ({ s with rows := Z2 s.rows (ZaT s.rows key) (ZU key val s.idx 0), tombs := T } : SD).rows k = fnd s.rows k ∧ ({ s with rows := Z2 s.rows (ZaT s.rows key) (ZU key val s.idx 0), tombs := T } : SD).view k = s.view k := fun T hT => by
      refine ⟨⟨ZU key val s.idx 0, ?_, rfl, rfl, ?_⟩, fun k hk => ?_⟩
      · show fnd (Z2 s.rows _ _) _ = _
        rw [hR, decide_eq_true (show kc (ZU key val s.idx 0) = Zq key from rfl)]; rfl
      · rw [Zeb hno]; rfl
      · have e : fnd (Z2 s.rows (ZaT s.rows key) (ZU key val s.idx 0)) k = fnd s.rows k := by
          rw [hR, decide_eq_false (show ¬ kc (ZU key val s.idx 0) = k from fun e => hk e.symm)]; rfl
        refine ⟨e, ?_⟩
        unfold SD.view
        rw [show fnd ({ s with rows := Z2 s.rows (ZaT s.rows key) (ZU key val s.idx 0), tombs := T } : SD).rows k = fnd s.rows k from e, show fnd ({ s with rows := Z2 s.rows (ZaT s.rows key) (ZU key val s.idx 0), tombs := T } : SD).tombs k = fnd s.tombs k from hT k hk]
    cases hft : Zr (fun i => neq (gl (rd s.tombs i) 0) key) 0 s.tombs.length with
    | none => exact fin s.tombs fun _ _ => rfl
    | some j =>
      have hj := ZbL hft
      refine fin (Zae s.tombs j) fun k hk => ?_
      rw [ZiN h.ndT hj, ZeT hft, decide_eq_false (Ne.symm hk)]; rfl
theorem put_tr {x : Int} {s : SD} (h : VS x s) (key val : List V) (k : List Int) : Tr s.idx (s.view k) ((s.put key val).2.view k) := by
  cases hb : (s.put key val).1 with
  | true =>
    obtain ⟨⟨r, h1, h2, h3, h4⟩, h5⟩ := Zj2 h hb
    by_cases e : k = Zq key
    · subst e; rw [ZcA h1, h2]; exact .inr (.inl rfl)
    · rw [(h5 k e).2]; exact .inl rfl
  | false =>
    have : (s.put key val).2 = s := by
      revert hb
      unfold SD.put
      cases Zr (fun i => neq (gl (rd s.rows i) 0) key) 0 s.rows.length with
      | some j => intro e; cases e
      | none => cases decide (20 ≤ s.rows.length) with
        | true => intro _; rfl
        | false => intro e; cases e
    rw [this]; exact .inl rfl
theorem ZiQ {x : Int} {s : SD} (h : VS x s) (key : List V) (n : Int) (k : List Int) : (s.hold key n).view k = s.view k ∧
    fnd (s.hold key n).rows k = (match fnd s.rows k with | some r => some (bif decide (k = Zq key) then ZU (gl r 0) (gl r 1) (gi r 2) n else r) | none => none) := by
  unfold SD.hold
  cases hf : Zr (fun i => neq (gl (rd s.rows i) 0) key) 0 s.rows.length with
  | none =>
    refine ⟨rfl, ?_⟩
    cases hr : fnd s.rows k with
    | none => rfl
    | some r =>
      have hne : k ≠ Zq key := fun e => Zeq hf r (Zec hr).1 (by rw [← e]; exact (Zec hr).2)
      rw [decide_eq_false hne]; rfl
  | some j =>
    have hj := ZbL hf
    have hc := ZeT hf
    show ({ s with rows := s.rows.set j (ZU (gl (rd s.rows j) 0) (gl (rd s.rows j) 1) (gi (rd s.rows j) 2) n) } : SD).view k = _ ∧ fnd (s.rows.set j _) k = _
    rw [Zex h hj, Zdt h hj, hc]
    by_cases e : k = Zq key
    · subst e
      have hr : fnd s.rows (Zq key) = some (rd s.rows j) := by rw [← hc]; exact Zfs h.ndR hj
      rw [decide_eq_true rfl, ZcA hr, hr]
      exact ⟨rfl, rfl⟩
    · rw [decide_eq_false (Ne.symm e), decide_eq_false e]
      refine ⟨rfl, ?_⟩
      show fnd s.rows k = _
      cases fnd s.rows k <;> rfl
theorem ZgJ {id : Int} (h0 : id ≠ 0) (del : Bool) : ∀ (n k : Nat) (s : SD), VS id s → 1 ≤ s.idx → ∀ q, Tr s.idx (s.view q) ((SD.shutL id del n k s).view q) ∧ ((SD.shutL id del n k s).view q).1 ≤ s.idx
  | 0, k, s, h, h1, q => ⟨.inl rfl, Zji h q⟩
  | n + 1, k, s, h, h1, q => by
    rw [SD.shutL]
    by_cases hlt : k < s.rows.length
    case neg => rw [dF hlt]; exact ⟨.inl rfl, Zji h q⟩
    rw [dT hlt]
    by_cases hh : gi (rd s.rows k) 3 = id
    case neg => rw [dF hh]; exact ZgJ h0 del n (k + 1) s h h1 q
    rw [dT hh]
    cases del with
    | true =>
      simp only [Bool.not_true, cond_false, cond_true]
      have hb := h.bury h1 hlt
      have e := Zj1 s k
      obtain ⟨a, b⟩ := ZgJ h0 true n k (s.bury k) hb (by omega) q
      rw [e] at a b
      refine ⟨?_, b⟩
      obtain ⟨v1, v2⟩ := ZgZ h hlt q
      by_cases hk : kc (rd s.rows k) = q
      · have v1 := v1 hk
        have : Tr s.idx (s.view q) ((s.bury k).view q) := .inr (.inl (by rw [v1]))
        exact Tr.trans this a b
      · exact Tr.trans (v2 hk) a b
    | false =>
      simp only [Bool.not_true, cond_false]
      have hr := h.rows _ (Zu hlt)
      have hs := h.setRow hlt hr.2.1 (h.wr _ (Zu hlt)).2 ⟨h1, Int.le_refl _⟩ (.inl rfl)
      obtain ⟨a, b⟩ := ZgJ h0 false n (k + 1) _ hs h1 q
      refine ⟨?_, b⟩
      have e := Zex h hlt (gl (rd s.rows k) 1) s.idx 0 q
      have : Tr s.idx (s.view q) (({ s with rows := s.rows.set k (ZU (gl (rd s.rows k) 0) (gl (rd s.rows k) 1) s.idx 0) } : SD).view q) := by
        rw [e]
        by_cases hk : kc (rd s.rows k) = q
        · rw [decide_eq_true hk]; exact .inr (.inl rfl)
        · rw [decide_eq_false hk]; exact .inl rfl
      exact Tr.trans this a b
theorem do_tr {s : SD} (h : VS 0 s) (h1 : 1 ≤ s.idx) {k : Int} {key val : List V} {n : Int} (ho : OpV k key val n) (q : List Int) : Tr s.idx (s.view q) ((s.do' k key val n).2.view q) := by
  have same : ∀ c : Int, Tr s.idx (s.view q) ((c, s).2.view q) := fun c => .inl rfl
  have hp := put_tr h key val q
  unfold SD.do'
  by_cases h1' : k = 1
  · rw [dT h1']; exact hp
  rw [dF h1']
  by_cases h2 : k = 2
  · rw [dT h2]
    simp only [cond_false, cond_true]
    cases decide ((match s.look key with | some j => gi (rd s.rows j) 2 | none => 0) = n) with
    | true => exact hp
    | false => exact same 3
  rw [dF h2]
  by_cases h3 : k = 3
  · rw [dT h3]
    simp only [cond_false, cond_true]
    cases hl : s.look key with
    | none => exact same 1
    | some j =>
      obtain ⟨v1, v2⟩ := ZgZ h (ZfF hl) q
      by_cases hk : kc (rd s.rows j) = q
      · exact .inr (.inl (by show ((s.bury j).view q).1 = _; rw [v1 hk]))
      · exact v2 hk
  rw [dF h3]
  by_cases h4 : k = 4
  · rw [dT h4]
    simp only [cond_false, cond_true]
    cases decide (8 ≤ s.sess.length) with
    | true => exact same 4
    | false => exact .inl rfl
  rw [dF h4]
  by_cases h5 : k = 5
  · rw [dT h5]
    simp only [cond_false, cond_true]
    cases hf : s.sessAt n with
    | none => exact same 1
    | some i =>
      have hi := (Zh2 hf).1
      have hid := h.sess _ (Zu hi)
      exact (ZgJ (by omega) _ _ _ _ (h.lose hi) h1 q).1
  rw [dF h5]
  by_cases h6 : k = 6
  · rw [dT h6]
    simp only [cond_false, cond_true]
    cases hf : s.sessAt n with
    | none => exact same 1
    | some i =>
      have fin : Tr s.idx (s.view q) ((bif (s.put key val).1 then ((0 : Int), (s.put key val).2.hold key n) else (4, (s.put key val).2)).2.view q) := by
        cases hb : (s.put key val).1 with
        | true =>
          show Tr s.idx (s.view q) (((s.put key val).2.hold key n).view q)
          rw [(ZiQ (h.put h1 (ho.key (.inr (.inr (.inr (.inl h6))))) ho.val ho.wk ho.wv) key n q).1]; exact hp
        | false => exact hp
      cases s.look key with
      | none => exact fin
      | some j =>
        simp only []
        cases !decide (gi (rd s.rows j) 3 = 0) && !decide (gi (rd s.rows j) 3 = n) with
        | true => exact same 2
        | false => exact fin
  rw [dF h6]
  by_cases h7 : k = 7
  · rw [dT h7]
    simp only [cond_false, cond_true]
    cases hl : s.look key with
    | none => exact same 1
    | some j =>
      have hj := ZfF hl
      simp only []
      cases decide (gi (rd s.rows j) 3 = n) with
      | true =>
        refine (show Tr s.idx (s.view q) (({ s with rows := s.rows.set j (ZU (gl (rd s.rows j) 0) (gl (rd s.rows j) 1) s.idx 0) } : SD).view q) from ?_)
        rw [Zex h hj]
        by_cases hk : kc (rd s.rows j) = q
        · rw [decide_eq_true hk]; exact .inr (.inl rfl)
        · rw [decide_eq_false hk]; exact .inl rfl
      | false => exact same 1
  rw [dF h7]
  exact same 0
theorem apply_tr {s : SD} (h : VS 0 s) (hi : s.idx < 1000000) {c : V} (hc : CmdV c) (q : List Int) : Tr (s.idx + 1) (s.view q) ((s.apply c).2.view q) := by
  have i0 := h.i0
  rcases Zc1 h hi hc with ⟨e, -⟩ | ⟨-, -, l, hl, -, -, e⟩ | ⟨-, -, l, hl, -, -, e⟩ | ⟨c0, c3, ho, L, e, hA, hL, -⟩
  · rw [e]; exact .inl rfl
  · rw [e]; exact .inl rfl
  · rw [e]; exact .inl rfl
  · rw [e]; exact do_tr (h.up hi) (show 1 ≤ s.idx + 1 by omega) ho q
theorem do_set {s : SD} (h : VS 0 s) (h1 : 1 ≤ s.idx) {k : Int} {key val : List V} {n : Int} (ho : OpV k key val n) (hc : (s.do' k key val n).1 = 0) :
    ((k = 1 ∨ k = 2 ∨ k = 6) → (s.do' k key val n).2.view (Zq key) = (s.idx, true, val)) ∧ (k = 3 → (s.do' k key val n).2.view (Zq key) = (s.idx, false, [])) ∧ (k = 7 → ((s.do' k key val n).2.view (Zq key)).1 = s.idx ∧ ((s.do' k key val n).2.view (Zq key)).2.1 = true) := by
  have hp : (s.put key val).1 = true → (s.put key val).2.view (Zq key) = (s.idx, true, val) := fun hb => by
    obtain ⟨⟨r, h1, h2, h3, h4⟩, h5⟩ := Zj2 h hb
    rw [ZcA h1, h2, h3]
  have hps : (s.puts key val).1 = 0 → (s.puts key val).2.view (Zq key) = (s.idx, true, val) := fun he => by
    refine hp ?_
    cases hb : (s.put key val).1 with
    | true => rfl
    | false =>
      have he : ZdB (s.put key val).1 = 0 := he
      rw [hb] at he; exact absurd he (by decide)
  revert hc
  unfold SD.do'
  by_cases h1' : k = 1
  · rw [dT h1']; intro hc
    exact ⟨fun _ => hps hc, fun e => absurd e (by omega), fun e => absurd e (by omega)⟩
  rw [dF h1']
  by_cases h2 : k = 2
  · rw [dT h2]
    simp only [cond_false, cond_true]
    cases decide ((match s.look key with | some j => gi (rd s.rows j) 2 | none => 0) = n) with
    | true => intro hc; exact ⟨fun _ => hps hc, fun e => absurd e (by omega), fun e => absurd e (by omega)⟩
    | false => intro hc; exact absurd (show (3 : Int) = 0 from hc) (by decide)
  rw [dF h2]
  by_cases h3 : k = 3
  · rw [dT h3]
    simp only [cond_false, cond_true]
    cases hl : s.look key with
    | none => intro hc; exact absurd (show (1 : Int) = 0 from hc) (by decide)
    | some j =>
      intro _
      obtain ⟨hj, hk⟩ := Zny hl
      exact ⟨fun e => absurd e (by omega), fun _ => (ZgZ h hj (Zq key)).1 hk, fun e => absurd e (by omega)⟩
  rw [dF h3]
  by_cases h4 : k = 4
  · exact fun _ => ⟨fun e => absurd e (by omega), fun e => absurd e (by omega), fun e => absurd e (by omega)⟩
  rw [dF h4]
  by_cases h5 : k = 5
  · exact fun _ => ⟨fun e => absurd e (by omega), fun e => absurd e (by omega), fun e => absurd e (by omega)⟩
  rw [dF h5]
  by_cases h6 : k = 6
  · rw [dT h6]
    simp only [cond_false, cond_true]
    cases hf : s.sessAt n with
    | none => intro hc; exact absurd (show (1 : Int) = 0 from hc) (by decide)
    | some i =>
      have fin : (bif (s.put key val).1 then ((0 : Int), (s.put key val).2.hold key n) else (4, (s.put key val).2)).1 = 0 → (bif (s.put key val).1 then ((0 : Int), (s.put key val).2.hold key n) else (4, (s.put key val).2)).2.view (Zq key) = (s.idx, true, val) := by
        cases hb : (s.put key val).1 with
        | true =>
          intro _
          show ((s.put key val).2.hold key n).view (Zq key) = _
          rw [(ZiQ (h.put h1 (ho.key (.inr (.inr (.inr (.inl h6))))) ho.val ho.wk ho.wv) key n _).1]; exact hp hb
        | false => intro hc; exact absurd hc (by show ¬ (4 : Int) = 0; decide)
      cases s.look key with
      | none => intro hc; exact ⟨fun _ => fin hc, fun e => absurd e (by omega), fun e => absurd e (by omega)⟩
      | some j =>
        simp only []
        cases !decide (gi (rd s.rows j) 3 = 0) && !decide (gi (rd s.rows j) 3 = n) with
        | true => intro hc; exact absurd (show (2 : Int) = 0 from hc) (by decide)
        | false => intro hc; exact ⟨fun _ => fin hc, fun e => absurd e (by omega), fun e => absurd e (by omega)⟩
  rw [dF h6]
  by_cases h7 : k = 7
  · rw [dT h7]
    simp only [cond_false, cond_true]
    cases hl : s.look key with
    | none => intro hc; exact absurd (show (1 : Int) = 0 from hc) (by decide)
    | some j =>
      obtain ⟨hj, hk⟩ := Zny hl
      simp only []
      cases decide (gi (rd s.rows j) 3 = n) with
      | true =>
        intro _
        refine ⟨fun e => absurd e (by omega), fun e => absurd e (by omega), fun _ => ?_⟩
        have e := Zex h hj (gl (rd s.rows j) 1) s.idx 0 (Zq key)
        rw [decide_eq_true hk] at e
        exact ⟨congrArg (fun v : Int × Bool × List V => v.1) e, congrArg (fun v : Int × Bool × List V => v.2.1) e⟩
      | false => intro hc; exact absurd (show (1 : Int) = 0 from hc) (by decide)
  exact fun _ => ⟨fun e => absurd e (by omega), fun e => absurd e (by omega), fun e => absurd e h7⟩
end Go.Eng.R
open Go Go.Eng
namespace Go.Eng.R
def opB (k : Int) (key : Bool) (nk nv : Nat) (n : Int) : Bool :=
  decide (nv ≤ 20) && (decide (0 ≤ n ∧ n ≤ 1000000) &&
    (bif decide (k = 1 ∨ k = 2 ∨ k = 3 ∨ k = 6 ∨ k = 7) then key else decide (nk = 0)) &&
    ((bif decide (k = 1 ∨ k = 2 ∨ k = 6) then true else decide (nv = 0)) &&
    ((bif decide (k = 0 ∨ k = 1 ∨ k = 3) then decide (n = 0) else bif decide (k = 4) then decide (n ≤ 1) else bif decide (k = 2) then true else decide (1 ≤ n)) && decide (0 ≤ k ∧ k ≤ 7))))
theorem ZnA {o : V} (ho : W_Op o) : ZgW o = some (opB (gi o 0) (Za4 (gl o 1)) (gl o 1).length (gl o 2).length (gi o 3)) := by
  unfold ZgW
  rw [ZeH ho.2.1]
  simp only [Zd8, Zcw, Option.bind_some]
  generalize gi o 0 = k
  generalize Za4 (gl o 1) = key
  generalize (gl o 1).length = nk
  generalize (gl o 2).length = nv
  generalize gi o 3 = n
  by_cases hk : 0 ≤ k ∧ k ≤ 7
  · obtain rfl | rfl | rfl | rfl | rfl | rfl | rfl | rfl : k = 0 ∨ k = 1 ∨ k = 2 ∨ k = 3 ∨ k = 4 ∨ k = 5 ∨ k = 6 ∨ k = 7 := by omega
    all_goals (cases key <;> simp [opB, Bool.cond_eq_ite] <;> (repeat' split) <;> simp_all <;> first | omega | (rw [Bool.eq_iff_iff]; simp; omega))
  · have hh : decide (0 ≤ k ∧ k ≤ 7) = false := by simpa using hk
    have h0 : decide (k = 0) = false := by simp; omega
    have h1 : decide (k = 1) = false := by simp; omega
    have h2 : decide (k = 2) = false := by simp; omega
    have h3 : decide (k = 3) = false := by simp; omega
    have h4 : decide (k = 4) = false := by simp; omega
    have h5 : decide (k = 5) = false := by simp; omega
    have h6 : decide (k = 6) = false := by simp; omega
    have h7 : decide (k = 7) = false := by simp; omega
    simp only [opB, hh, h0, h1, h2, h3, h4, h5, h6, h7, cond_false, Bool.and_false]
def ZbC (c : V) : Bool :=
  bif decide (gi c 0 = -1) then decide (gi c 1 = 0) && (decide (gi c 2 = 0) && opB (gi c 2) (Za4 (gl c 3)) (gl c 3).length (gl c 4).length (gi c 5))
  else decide (0 ≤ gi c 0 ∧ gi c 0 ≤ 3) && (decide (1 ≤ gi c 1 ∧ gi c 1 ≤ 1000000) && opB (gi c 2) (Za4 (gl c 3)) (gl c 3).length (gl c 4).length (gi c 5))
theorem Zpm (l : List V) : Zbx (l.map Zay) [] = decide (l.length = 0) := by cases l <;> simp [Zbx]
theorem ZlE (c : V) : ZeF (Zn c) (Zn ZgV) = (decide (gi c 0 = -1) && (decide (gi c 1 = 0) && (decide (gi c 2 = 0) && (decide ((gl c 3).length = 0) && (decide ((gl c 4).length = 0) && decide (gi c 5 = 0)))))) := by
  simp only [ZeF, ZgF, ZgV, Zn, ZkW, ZkY, ZkX, ZkZ, Zew, List.map_nil, Zpm]
  by_cases h0 : gi c 0 = -1 <;> by_cases h1 : gi c 1 = 0 <;> by_cases h2 : gi c 2 = 0 <;> by_cases h3 : (gl c 3).length = 0 <;> by_cases h4 : (gl c 4).length = 0 <;> simp [h0, h1, h2, h3, h4] <;> rfl
theorem Zia {c : V} (hc : Zfn c) : Zem c = some (ZbC c) := by
  unfold Zem
  rw [ZnA (o := V.agg [(V.int .i64 (gi c 2)), (V.inl Zc (gl c 3)), (V.inl Zc (gl c 4)), (V.int .i64 (gi c 5))]) hc.2.2, ZlE]
  simp only [Option.bind_some, ZkW, ZkY, ZkX, ZkZ, ZbC, Zd8]
  by_cases h1 : gi c 0 = -1
  · simp only [h1, decide_true, cond_true, Bool.true_and]
    rw [show decide (0 ≤ (-1 : Int) ∧ (-1 : Int) ≤ 3) = false from rfl]
    by_cases h2 : gi c 1 = 0 <;> by_cases h3 : gi c 2 = 0 <;> simp only [h2, h3, decide_true, decide_false, Bool.true_and, Bool.false_and, cond_false]
    simp only [opB]
    by_cases a3 : (gl c 3).length = 0 <;> by_cases a4 : (gl c 4).length = 0 <;> by_cases a5 : gi c 5 = 0 <;> simp [a3, a4, a5]
  · simp only [h1, decide_false, cond_false, Bool.false_and]
    generalize opB _ _ _ _ _ = z
    by_cases h2 : 0 ≤ gi c 0 ∧ gi c 0 ≤ 3 <;> by_cases h3 : 1 ≤ gi c 1 ∧ gi c 1 ≤ 1000000 <;> simp [h2, h3]
end Go.Eng.R
open Go Go.Eng
namespace Go.Eng.R
set_option maxRecDepth 100000
structure Eqv (a b : SD) : Prop where
  idx : a.idx = b.idx
  lost : a.lost = b.lost
  sess : a.sess = b.sess
  lasts : a.lasts = b.lasts
  rows : SameL RowE a.rows b.rows
  tombs : SameL TombE a.tombs b.tombs
theorem SameL.mem {E : V → V → Prop} {l l' : List V} (h : SameL E l l') {r : V} (hr : r ∈ l) : ∃ r' ∈ l', E r r' := by
  obtain ⟨i, hi, rfl⟩ := ZbB hr
  have hi' : i < l'.length := by rw [← h.1]; exact hi
  exact ⟨_, Zu hi', h.2 i hi'⟩
theorem SameL.map {β : Type} {E : V → V → Prop} {f : V → β} (hf : ∀ a b, E a b → f a = f b) {l l' : List V} (h : SameL E l l') : l.map f = l'.map f := by
  refine List.ext_getElem (by rw [List.length_map, List.length_map]; exact h.1) fun i h1 h2 => ?_
  rw [List.getElem_map, List.getElem_map]
  rw [List.length_map] at h1 h2
  have := hf _ _ (h.2 i h2)
  rwa [ZdT h1, ZdT h2] at this
theorem RowE.kc {a b : V} (h : RowE a b) : kc a = kc b := by unfold R.kc; rw [h.1]
theorem TombE.kc {a b : V} (h : TombE a b) : kc a = kc b := by unfold R.kc; rw [h.1]
theorem VS.eqv {x : Int} {a b : SD} (h : VS x b) (e : Eqv a b) : VS x a := by
  have k1 : a.rows.map kc = b.rows.map kc := e.rows.map fun _ _ h => h.kc
  have k2 : a.tombs.map kc = b.tombs.map kc := e.tombs.map fun _ _ h => h.kc
  have k3 : (a.tombs.map fun t => gi t 1) = b.tombs.map fun t => gi t 1 := e.tombs.map fun _ _ h => h.2
  refine ⟨by rw [e.idx]; exact h.i0, by rw [e.idx]; exact h.i1, by rw [e.lost]; exact h.l0, by rw [e.lost, e.idx]; exact h.l1, by rw [e.rows.1]; exact h.nr, by rw [e.tombs.1]; exact h.nt, by rw [e.sess]; exact h.ns, by rw [e.lasts]; exact h.nl, fun r hr => ?_, fun r hr => ?_, e.rows.asc h.asc, fun t ht => ?_, by rw [k3]; exact h.ord, by rw [k1, k2]; exact h.nd, by rw [e.sess, e.idx]; exact h.sess, by rw [e.sess]; exact h.sasc, by rw [e.lasts, e.idx]; exact h.lasts, by rw [e.lasts]; exact h.lasc, fun r hr => ?_, fun t ht => ?_⟩
  · obtain ⟨r', hr', q1, q2, q3, q4⟩ := e.rows.mem hr
    rw [q1, q2, q3, e.idx]; exact h.rows r' hr'
  · obtain ⟨r', hr', q1, q2, q3, q4⟩ := e.rows.mem hr
    rw [q4, e.sess]; exact h.hold r' hr'
  · obtain ⟨t', ht', q1, q2⟩ := e.tombs.mem ht
    rw [q1, q2, e.idx, e.lost]; exact h.tombs t' ht'
  · obtain ⟨r', hr', q1, q2, q3, q4⟩ := e.rows.mem hr
    rw [q1, q2]; exact h.wr r' hr'
  · obtain ⟨t', ht', q1, q2⟩ := e.tombs.mem ht
    rw [q1]; exact h.wt t' ht'
theorem Zj3 {E : V → V → Prop} (hk : ∀ a b, E a b → kc a = kc b) {l l' : List V} (h : SameL E l l') (hn : (l'.map kc).Nodup) (k : List Int) :
    (fnd l k = none ∧ fnd l' k = none) ∨ ∃ r r', fnd l k = some r ∧ fnd l' k = some r' ∧ E r r' := by
  have hn' : (l.map kc).Nodup := by rw [h.map hk]; exact hn
  cases hf : fnd l' k with
  | some r' =>
    obtain ⟨hm, rfl⟩ := Zec hf
    obtain ⟨i, hi, rfl⟩ := ZbB hm
    have e := h.2 i hi
    refine .inr ⟨_, _, ?_, rfl, e⟩
    rw [← hk _ _ e]
    exact Zfs hn' (by rw [h.1]; exact hi)
  | none =>
    refine .inl ⟨Zeb fun r hr e => ?_, rfl⟩
    obtain ⟨r', hr', e'⟩ := h.mem hr
    exact ZjZ hf r' hr' ((hk _ _ e').symm.trans e)
theorem view_eqv {x : Int} {a b : SD} (h : VS x b) (e : Eqv a b) (k : List Int) : a.view k = b.view k := by
  rcases Zj3 (fun _ _ h => RowE.kc h) e.rows h.ndR k with ⟨h1, h2⟩ | ⟨r, r', h1, h2, q1, q2, q3, q4⟩
  · rcases Zj3 (fun _ _ h => TombE.kc h) e.tombs h.ndT k with ⟨g1, g2⟩ | ⟨t, t', g1, g2, p1, p2⟩
    · rw [Zgm h1 g1, Zgm h2 g2, e.lost]
    · rw [Zdl h1 g1, Zdl h2 g2, p2]
  · rw [ZcA h1, ZcA h2, q2, q3]
theorem own_eqN {s : SD} (h : VS 0 s) : ∃ a, Eqv a s ∧ ((∀ r ∈ a.rows, nrow r = r) ∧ (∀ t ∈ a.tombs, Zjg t = t)) ∧ Zcp (Za s.v) = some a.v := by
  have n1 := h.nr; have n2 := h.nt; have n3 := h.ns; have n4 := h.nl
  obtain ⟨R, T, e, hR, hT, hN⟩ := own_O (s := s.v) (show s.rows.length ≤ 1000 by omega) (show s.tombs.length ≤ 1000 by omega) (show s.sess.length ≤ 1000 by omega) (show s.lasts.length ≤ 1000 by omega) (fun j hj => by
    have := h.rows _ (Zu (show j < s.rows.length from hj))
    have h1 := ZjY this.1
    have h2 := this.2.1
    exact ⟨by show (gl (rd s.rows j) 0).length ≤ 1000; omega, by show (gl (rd s.rows j) 1).length ≤ 1000; omega⟩) (fun j hj => by
    have := h.tombs _ (Zu (show j < s.tombs.length from hj))
    have h1 := ZjY this.1
    show (gl (rd s.tombs j) 0).length ≤ 1000; omega)
  exact ⟨⟨s.idx, R, T, s.lost, s.sess, s.lasts⟩, ⟨rfl, rfl, rfl, rfl, hR, hT⟩, hN, e⟩
theorem own_eq {s : SD} (h : VS 0 s) : ∃ a, Eqv a s ∧ Zcp (Za s.v) = some a.v := by
  obtain ⟨a, h1, -, h2⟩ := own_eqN h
  exact ⟨a, h1, h2⟩
theorem opB_V {k : Int} {key val : List V} {n : Int} (h : opB k (Za4 key) key.length val.length n = true) (wk : LW ZS key) (wv : LW ZS val) : OpV k key val n := by
  unfold opB at h
  simp only [Bool.and_eq_true, decide_eq_true_eq] at h
  obtain ⟨h1, ⟨-, h3⟩, -, -, h6⟩ := h
  refine ⟨h6, fun hk => ?_, fun hk => ?_, h1, wk, wv⟩
  · rw [decide_eq_true (show k = 1 ∨ k = 2 ∨ k = 3 ∨ k = 6 ∨ k = 7 from hk)] at h3; exact h3
  · rw [decide_eq_false (show ¬ (k = 1 ∨ k = 2 ∨ k = 3 ∨ k = 6 ∨ k = 7) from hk)] at h3
    exact of_decide_eq_true h3
theorem Zll {c : V} (hw : Zfn c) (h : ZbC c = true) : CmdV c := by
  unfold ZbC at h
  by_cases h1 : gi c 0 = -1
  · exact .inl (by omega)
  · rw [decide_eq_false h1] at h
    simp only [cond_false, Bool.and_eq_true, decide_eq_true_eq] at h
    exact .inr ⟨h.1.1, h.1.2, h.2.1.1, h.2.1.2, opB_V h.2.2 hw.2.2.2.1 hw.2.2.2.2.1⟩
theorem CmdV.lens {c : V} (hw : Zfn c) (h : ZbC c = true) : (gl c 3).length ≤ 1000 ∧ (gl c 4).length ≤ 1000 ∧ (opK (gi c 2) → 0 < (gl c 3).length) ∧ (gi c 0 < 0 ∨ (0 ≤ gi c 0 ∧ gi c 0 ≤ 3)) := by
  have key : ∀ {k : Int} {n : Int}, opB k (Za4 (gl c 3)) (gl c 3).length (gl c 4).length n = true → (gl c 3).length ≤ 1000 ∧ (gl c 4).length ≤ 1000 ∧ (opK k → 0 < (gl c 3).length) := fun {k n} h => by
    have ho := opB_V h hw.2.2.2.1 hw.2.2.2.2.1
    have hv := ho.val
    by_cases hk : opK k
    · have := ho.key hk
      have h1 := ZjY this
      refine ⟨by omega, by omega, fun _ => ?_⟩
      unfold Za4 at this
      simp only [Bool.and_eq_true, decide_eq_true_eq] at this
      omega
    · have := ho.nk hk
      exact ⟨by omega, by omega, fun h => absurd h hk⟩
  unfold ZbC at h
  by_cases h1 : gi c 0 = -1
  · rw [decide_eq_true h1] at h
    simp only [cond_true, Bool.and_eq_true] at h
    obtain ⟨a, b, d⟩ := key h.2.2
    exact ⟨a, b, d, .inl (by omega)⟩
  · rw [decide_eq_false h1] at h
    simp only [cond_false, Bool.and_eq_true, decide_eq_true_eq] at h
    obtain ⟨a, b, d⟩ := key h.2.2
    exact ⟨a, b, d, .inr h.1⟩
def zeroS : V := V.agg [(V.int .i64 0), (V.inl Zg []), (V.inl Zf []), (V.int .i64 0), (V.inl Zd []), (V.inl Ze [])]
def Zbs (a b : Int) : V := V.agg [(V.int .i64 a), (V.int .i64 b)]
theorem Zf9 {s c : V} (hs : Zb4 s) (hc : Zfn c) (h : ZaJ s = false ∨ ZbC c = false ∨ gi s 0 = 1000000) : ZC (Za s) (Zn c) = some (zeroS, Zbs 0 0) := by
  unfold ZC
  rw [show Za (Za s) = Za s from rfl, show Zn (Zn c) = Zn c from rfl, Zfp hs]
  have hce : Zem (Zn c) = some (ZbC c) := Zia hc
  rw [hce]
  simp only [Option.bind_some, show gi (Za s) 0 = gi s 0 from rfl]
  rcases h with h | h | h
  · rw [h]; rfl
  · cases ZaJ s with
    | false => rfl
    | true => rw [h]; rfl
  · cases ZaJ s with
    | false => rfl
    | true =>
      cases ZbC c with
      | false => rfl
      | true => rw [decide_eq_true h]; rfl
theorem ZdC {s : SD} (h : VS 0 s) (hi : s.idx < 1000000) {c : V} (hc : Zfn c) (hcb : ZbC c = true) :
    ∃ a, Eqv a s ∧ VS 0 a ∧ ZC (Za s.v) (Zn c) = some ((a.apply c).2.v, Zbs (a.apply c).1.1 (a.apply c).1.2) := by
  obtain ⟨a, ea, e⟩ := own_eq h
  have ha := h.eqv ea
  refine ⟨a, ea, ha, ?_⟩
  have hce : Zem (Zn c) = some (ZbC c) := Zia hc
  obtain ⟨l1, l2, l3, l4⟩ := CmdV.lens hc hcb
  have i0 := ha.i0; have i1 := ha.i1; have n4 := ha.nl
  have hap := Zmt (s := a) (c := c) ha.asc ha.nr ha.nt ha.ns (by omega) ha.lasc (fun i hi => by have := ha.lasts _ (Zu hi); exact ⟨this.1, this.2.1⟩) i0 (by omega) l1 l2 l3 l4
  unfold ZC
  rw [show Za (Za s.v) = Za s.v from rfl, show Zn (Zn c) = Zn c from rfl, Zfp h.W, h.B, hce, hcb]
  simp only [Option.bind_some, Bool.not_true, cond_false]
  rw [decide_eq_false (show ¬ gi (Za s.v) 0 = 1000000 by show ¬ s.idx = 1000000; omega), e]
  simp only [cond_false, Option.bind_some]
  rw [show Za a.v = a.v from rfl, hap]
  rfl
def Zc3 (v : Int × Bool × List V) : V := V.agg [(V.int .i64 v.1), (V.bool v.2.1), (V.inl Zc v.2.2)]
theorem Zed {s : SD} (h : VS 0 s) {key : List V} (hk : LW ZS key) : Zck (Za s.v) key = some (bif Za4 key then Zc3 (s.view (Zq key)) else Zc3 (0, false, [])) := by
  unfold Zck
  rw [show Za (Za s.v) = Za s.v from rfl, Zfp h.W, h.B, ZeH hk]
  simp only [Option.bind_some, Bool.not_true, cond_false]
  cases Za4 key with
  | false => rfl
  | true =>
    simp only [Bool.not_true, cond_false, cond_true]
    have n1 := h.nr; have n2 := h.nt
    have key1 : ZdV (Za s.v) key = some (Zc3 (s.view (Zq key))) := by
      unfold ZdV
      rw [show Za (Za s.v) = Za s.v from rfl, ZfR (s := s.v) (show s.rows.length ≤ 4194304 by omega) h.asc key]
      have hf := ZgI (k := key) h.asc
      simp only [Option.bind_some, show gl (Za s.v) 1 = s.rows from rfl, show gl (Za s.v) 2 = s.tombs from rfl, show gi (Za s.v) 3 = s.lost from rfl, show gl s.v 1 = s.rows from rfl]
      cases hh : Zcv (fun r => gl r 0) s.rows key with
      | true =>
        rw [hh] at hf
        have hj := Zjh hh
        have hc := ZeT hf
        have hr := h.rows _ (Zu hj)
        rw [ZcA (s := s) (by rw [← hc]; exact Zfs h.ndR hj)]
        simp only [cond_true, Zo hj, Int.toNat_natCast]
        rw [ZcK (by omega)]; rfl
      | false =>
        rw [hh] at hf
        have hno : fnd s.rows (Zq key) = none := Zeb (Zeq hf)
        simp only [cond_false]
        rw [ZgG (s := s.v) (show s.tombs.length ≤ 9223372036854775807 by omega)]
        simp only [Option.bind_some, show gl s.v 2 = s.tombs from rfl]
        cases hft : Zr (fun i => neq (gl (rd s.tombs i) 0) key) 0 s.tombs.length with
        | none =>
          rw [Ze1 hft, Zgm hno (Zeb (Zeq hft))]; rfl
        | some j =>
          have hj := ZbL hft
          have hc := ZeT hft
          rw [ZdN hft, decide_eq_true (show (0 : Int) ≤ (j : Int) by omega), Zdl hno (by rw [← hc]; exact Zfs h.ndT hj)]
          simp only [cond_true, Zo hj, Int.toNat_natCast]
          rfl
    rw [show Za s.v = Za s.v from rfl, key1]; rfl
theorem Zob (a b : Int × Bool × List V) : ZaB (Zc3 a) (Zc3 b) = (decide (a.1 = b.1) && (decide (a.2.1 = b.2.1) && neq a.2.2 b.2.2)) := by
  obtain ⟨a1, a2, a3⟩ := a
  obtain ⟨b1, b2, b3⟩ := b
  unfold ZaB Za7
  show (bif decide (a1 = b1) then (bif (a2 == b2) then neq a3 b3 else false) else false) = _
  cases decide (a1 = b1) <;> cases a2 <;> cases b2 <;> rfl
theorem ZdD (a : Int × Bool × List V) : ZaB (Zc3 a) (Zc3 a) = true := by rw [Zob, decide_eq_true rfl, decide_eq_true rfl, Zea]; rfl
end Go.Eng.R
open Go Go.Eng
namespace Go.Eng.R
set_option maxRecDepth 100000
theorem B_Cmd.W {c : V} (h : B_Cmd c) : Zfn c := ⟨h.1, h.2.1, h.2.2.1, h.2.2.2.1.1, h.2.2.2.2.1.1, h.2.2.2.2.2⟩
theorem Zj4 {s : SD} (hb : BI s) {c : V} (hc : B_Cmd c) :
    ((ZaJ s.v = false ∨ ZbC c = false ∨ s.idx = 1000000) ∧ ZC (Za s.v) (Zn c) = some (zeroS, Zbs 0 0)) ∨
    (ZaJ s.v = true ∧ ZbC c = true ∧ VS 0 s ∧ s.idx < 1000000 ∧ CmdV c ∧ ∃ a, Eqv a s ∧ VS 0 a ∧ ZC (Za s.v) (Zn c) = some ((a.apply c).2.v, Zbs (a.apply c).1.1 (a.apply c).1.2)) := by
  cases hv : ZaJ s.v with
  | false => exact .inl ⟨.inl rfl, Zf9 hb.W hc.W (.inl hv)⟩
  | true =>
    cases hcb : ZbC c with
    | false => exact .inl ⟨.inr (.inl rfl), Zf9 hb.W hc.W (.inr (.inl hcb))⟩
    | true =>
      have h := VS.of hb.W hv
      have i1 := h.i1
      by_cases hi : s.idx = 1000000
      · exact .inl ⟨.inr (.inr hi), Zf9 hb.W hc.W (.inr (.inr hi))⟩
      · obtain ⟨a, e1, e2, e3⟩ := ZdC h (by omega) hc.W hcb
        exact .inr ⟨rfl, rfl, h, by omega, Zll hc.W hcb, a, e1, e2, e3⟩
theorem law_Sets {code : List V} (h : LW ZS code) : ZdK code = some true := by
  unfold ZdK
  obtain ⟨⟨st, c⟩, e, ⟨s, hb, es⟩, hc⟩ := ZdO h
  have es : st = s.v := es
  subst es
  have hcm : B_Cmd c := hc
  rw [e]
  simp only [Option.bind_some]
  rcases Zj4 hb hcm with ⟨-, e1⟩ | ⟨hv, hcb, hs, hi, hcv, a, ea, ha, e1⟩
  · rw [e1]; rfl
  rw [e1]
  simp only [Option.bind_some, show ∀ x y, gi (Zbs x y) 1 = y from fun _ _ => rfl, show ∀ x y, gi (Zbs x y) 0 = x from fun _ _ => rfl, show ∀ t : SD, gi t.v 0 = t.idx from fun _ => rfl]
  have hai : a.idx < 1000000 := by rw [ea.idx]; exact hi
  obtain ⟨f1, f2, f3, f4⟩ := ha.apply hai hcv
  have hal : ∀ x : Option Bool, (bif decide ((a.apply c).1.2 = 0) then some Zcb else x) = x := fun x => by rw [decide_eq_false (by omega)]; rfl
  rw [hal]
  by_cases h0 : (a.apply c).1.1 = 0
  case neg => rw [decide_eq_false h0]; rfl
  rw [decide_eq_true h0]
  by_cases h1 : (a.apply c).1.2 = (a.apply c).2.idx
  case neg => rw [decide_eq_false h1]; rfl
  rw [decide_eq_true h1]
  by_cases h2 : (((gl c 3).length : Nat) : Int) = 0
  · rw [decide_eq_true h2]; rfl
  rw [decide_eq_false h2]
  simp only [Bool.not_true, cond_false]
  rw [Zed f1 hcm.2.2.2.1.1]
  have i0 := ha.i0
  rcases Zc1 ha hai hcv with ⟨e2, hneg⟩ | ⟨-, -, l, hl, -, -, e2⟩ | ⟨-, -, l, hl, -, -, e2⟩ | ⟨c0, c3, ho, L, e2, hA, hL, -⟩
  · exfalso
    have hz : ZbC c = true := hcb
    unfold ZbC at hz
    by_cases g : gi c 0 = -1
    · rw [decide_eq_true g] at hz
      simp only [cond_true, Bool.and_eq_true, decide_eq_true_eq] at hz
      have ho := opB_V hz.2.2 hcm.2.2.2.1.1 hcm.2.2.2.2.1.1
      have := ho.nk (by unfold opK; omega)
      omega
    · rw [decide_eq_false g] at hz
      simp only [cond_false, Bool.and_eq_true, decide_eq_true_eq] at hz
      omega
  · exfalso
    have := ha.lasts l hl
    rw [e2] at h1
    have h1 : gi l 3 = a.idx + 1 := h1
    omega
  · exfalso
    rw [e2] at h0
    exact absurd h0 (by show ¬ (5 : Int) = 0; decide)
  · rw [e2] at h0 h1 ⊢
    have h0 : (a.up.do' (gi c 2) (gl c 3) (gl c 4) (gi c 5)).1 = 0 := h0
    have hopk : opK (gi c 2) := by
      by_cases hk : opK (gi c 2)
      · exact hk
      · have := ho.nk hk; omega
    rw [ho.key hopk]
    obtain ⟨g1, g2, g3⟩ := do_set (ha.up hai) (show 1 ≤ a.idx + 1 by omega) ho h0
    have hidx : (a.up.do' (gi c 2) (gl c 3) (gl c 4) (gi c 5)).2.idx = a.idx + 1 := ((ha.up hai).do' (show 1 ≤ a.idx + 1 by omega) (fun y hy => by have := ha.sess y hy; show gi y 0 < a.idx + 1; omega) ho).2.2.2.1
    have hview : ({ (a.up.do' (gi c 2) (gl c 3) (gl c 4) (gi c 5)).2 with lasts := L } : SD).view (Zq (gl c 3)) = (a.up.do' (gi c 2) (gl c 3) (gl c 4) (gi c 5)).2.view (Zq (gl c 3)) := rfl
    simp only [Option.bind_some, cond_true, hidx, hview]
    have set : ∀ v : Int × Bool × List V, v = (a.idx + 1, true, gl c 4) → some (ZaB (Zb0 (Zc3 v)) (V.agg [(V.int .i64 (a.idx + 1)), (V.bool true), (V.inl Zc (gl c 4))])) = some true := fun v hv => by
      subst hv
      exact congrArg some (ZdD (a.idx + 1, true, gl c 4))
    by_cases k1 : gi c 2 = 1
    · rw [decide_eq_true k1]; exact set _ (g1 (.inl k1))
    rw [decide_eq_false k1]
    by_cases k2 : gi c 2 = 2
    · rw [decide_eq_true k2]; exact set _ (g1 (.inr (.inl k2)))
    rw [decide_eq_false k2]
    by_cases k6 : gi c 2 = 6
    · rw [decide_eq_true k6]; exact set _ (g1 (.inr (.inr k6)))
    rw [decide_eq_false k6]
    by_cases k3 : gi c 2 = 3
    · rw [decide_eq_true k3]
      have := g2 k3
      simp only [cond_false, cond_true]
      show (bif !gb (Zc3 ((a.up.do' (gi c 2) (gl c 3) (gl c 4) (gi c 5)).2.view (Zq (gl c 3)))) 1 then some (decide (gi (Zc3 ((a.up.do' (gi c 2) (gl c 3) (gl c 4) (gi c 5)).2.view (Zq (gl c 3)))) 0 = a.idx + 1)) else some false) = _
      rw [this]
      show (bif !false then some (decide (a.up.idx = a.idx + 1)) else some false) = _
      rw [decide_eq_true (show a.up.idx = a.idx + 1 from rfl)]; rfl
    rw [decide_eq_false k3]
    have k7 : gi c 2 = 7 := by
      unfold opK at hopk; omega
    obtain ⟨g4, g5⟩ := g3 k7
    simp only [cond_false]
    show (bif ((a.up.do' (gi c 2) (gl c 3) (gl c 4) (gi c 5)).2.view (Zq (gl c 3))).2.1 then some (decide (((a.up.do' (gi c 2) (gl c 3) (gl c 4) (gi c 5)).2.view (Zq (gl c 3))).1 = a.idx + 1)) else some false) = _
    rw [g5, g4, decide_eq_true (show a.up.idx = a.idx + 1 from rfl)]; rfl
theorem ZoL {n : Int} (hn : n ≤ 4) : ∀ (k : Nat) (i : Nat) (c : V) (r : List V), ZL c → LW ZS r → (i : Int) ≤ n → (n - (i : Int)).toNat < k → r.length = i →
    Ok (fun q => ZL q.1 ∧ LW ZS q.2 ∧ q.2.length ≤ 4) (Zcq k n (i : Int) (Zb c) r)
  | 0, i, c, r, hc, hr, hi, hk, hl => by omega
  | k + 1, i, c, r, hc, hr, hi, hk, hl => by
    rw [Zcq]
    by_cases hin : (i : Int) < n
    case neg => rw [decide_eq_false hin]; exact ⟨_, rfl, hc, hr, by show r.length ≤ 4; omega⟩
    rw [decide_eq_true hin]
    simp only [cond_true]
    refine Ok.bind (byte_O hc) ?_
    rintro ⟨x, c1⟩ ⟨h1, -⟩
    refine .chk (Zaf (by omega) (by omega)) ?_
    have ew : IntKind.i64.wrap ((i : Int) + 1) = ((i + 1 : Nat) : Int) := by rw [Zap (by omega) (by omega)]; omega
    rw [ew]
    refine ZoL hn k (i + 1) c1 _ h1 (LW.snoc hr (by omega) ?_) (by omega) (by omega) (by rw [List.length_append, List.length_singleton]; omega)
    show 0 ≤ IntKind.u8.wrap x ∧ IntKind.u8.wrap x ≤ 255
    rw [IntKind.wrap_u8]; omega
theorem some_O {c : V} (h : ZL c) : Ok2 (fun x c => ZL c ∧ LW ZS x) (ZfQ (Zb c) 3) := by
  unfold ZfQ
  refine .of ?_
  refine Ok.bind2 (ZbM h 4) ?_
  rintro n c1 ⟨h1, n0, -, n2⟩
  refine Ok.bind (ZoL (n := n) (by omega) ((n - 0).toNat + 1) 0 c1 [] h1 LW.nil n0 (by omega) rfl) ?_
  rintro ⟨c2, r⟩ ⟨h2, hr, -⟩
  exact ⟨_, rfl, h2, hr⟩
theorem Zpn {code : List V} (h : LW ZS code) : Ok (fun r => LW ZS r.2) (ZeG code) := by
  unfold ZeG
  refine Ok.bind (new_O h) ?_
  intro c0 h0
  refine Ok.bind (bent_S h0) ?_
  rintro ⟨st, c1⟩ ⟨h1, -⟩
  have h1 : ZL c1 := h1
  refine Ok.bind2 (Zfr h1 12) ?_
  rintro b c2 h2
  refine .ite (fun _ => ?_) (fun _ => ?_)
  · refine Ok.bind2 (some_O h2) ?_
    rintro x c3 ⟨h3, hx⟩
    exact ⟨_, rfl, hx⟩
  · refine Ok.bind2 (ZlY h2) ?_
    rintro x c3 ⟨h3, hx⟩
    exact ⟨_, rfl, hx.1⟩
theorem VS.zero : VS 0 ⟨0, [], [], 0, [], []⟩ :=
  ⟨Int.le_refl _, by decide, Int.le_refl _, Int.le_refl _, Nat.zero_le _, Nat.zero_le _, Nat.zero_le _, Nat.zero_le _, fun _ h => (by cases h), fun _ h => (by cases h), fun i h => absurd h (Nat.not_lt_zero _), fun _ h => (by cases h), List.Pairwise.nil, List.nodup_nil, fun _ h => (by cases h), fun i h => absurd h (Nat.not_lt_zero _), fun _ h => (by cases h), fun i h => absurd h (Nat.not_lt_zero _), fun _ h => (by cases h), fun _ h => (by cases h)⟩
theorem Zp9 {code : List V} (h : LW ZS code) : Zdd code = some true := by
  unfold Zdd
  obtain ⟨⟨st, c⟩, e, ⟨s, hb, es⟩, hc⟩ := ZdO h
  have es : st = s.v := es
  subst es
  have hcm : B_Cmd c := hc
  obtain ⟨⟨st2, key⟩, e2, hk⟩ := Zpn h
  have hk : LW ZS key := hk
  rw [e, e2]
  simp only [Option.bind_some]
  rcases Zj4 hb hcm with ⟨-, e1⟩ | ⟨hv, hcb, hs, hi, hcv, a, ea, ha, e1⟩
  · rw [e1]
    simp only [Option.bind_some, show ∀ x y, gi (Zbs x y) 1 = y from fun _ _ => rfl]
    have hz := Zed VS.zero (key := [(V.int .u8 97)]) (ZeS rfl).1
    have hz : Zck (V.agg [(V.int .i64 0), (V.inl Zg []), (V.inl Zf []), (V.int .i64 0), (V.inl Zd []), (V.inl Ze [])]) [(V.int .u8 97)] = _ := hz
    rw [hz]
    rfl
  rw [e1]
  simp only [Option.bind_some, show ∀ x y, gi (Zbs x y) 1 = y from fun _ _ => rfl, show ∀ t : SD, gi t.v 0 = t.idx from fun _ => rfl]
  have hai : a.idx < 1000000 := by rw [ea.idx]; exact hi
  obtain ⟨f1, f2, f3, f4⟩ := ha.apply hai hcv
  rw [decide_eq_false (show ¬ (a.apply c).1.2 = 0 by omega), Zed hs hk, Zed f1 hk]
  simp only [Option.bind_some, cond_false]
  cases Za4 key with
  | false =>
    simp only [cond_false]
    show (bif decide ((0 : Int) < 0) then some false else bif decide ((a.apply c).2.idx < 0) then some false else bif !decide ((0 : Int) = 0) then some true else some (ZaB (Zc3 (0, false, [])) (Zc3 (0, false, [])))) = _
    rw [decide_eq_false (show ¬ (a.apply c).2.idx < 0 by have := f1.i0; omega), ZdD]; rfl
  | true =>
    simp only [cond_true]
    have ht := apply_tr ha hai hcv (Zq key)
    rw [view_eqv hs ea] at ht
    have g1 := Zji hs (Zq key)
    have g2 := Zji f1 (Zq key)
    rw [ea.idx] at ht f2
    show (bif decide (((a.apply c).2.view (Zq key)).1 < (s.view (Zq key)).1) then some false else bif decide ((a.apply c).2.idx < ((a.apply c).2.view (Zq key)).1) then some false else bif !decide (((a.apply c).2.view (Zq key)).1 = (s.view (Zq key)).1) then some true else some (ZaB (Zc3 (s.view (Zq key))) (Zc3 ((a.apply c).2.view (Zq key))))) = _
    generalize (a.apply c).2.view (Zq key) = y at *
    generalize s.view (Zq key) = x at *
    rw [decide_eq_false (show ¬ (a.apply c).2.idx < y.1 by omega)]
    rcases ht with rfl | ht | ⟨t1, t2, t3⟩
    · rw [decide_eq_false (Int.lt_irrefl _), decide_eq_true rfl, ZdD]; rfl
    · rw [decide_eq_false (show ¬ y.1 < x.1 by omega), decide_eq_false (show ¬ y.1 = x.1 by omega)]; rfl
    · rw [decide_eq_false (show ¬ y.1 < x.1 by omega)]
      by_cases hxy : y.1 = x.1
      · have : y = x := Prod.ext hxy (by rw [t1, t2])
        rw [this, decide_eq_true rfl, ZdD]; rfl
      · rw [decide_eq_false hxy]; rfl
end Go.Eng.R
open Go Go.Eng
namespace Go.Eng.R
set_option maxRecDepth 100000
end Go.Eng.R
open Go Go.Eng
namespace Go.Eng.R
set_option maxRecDepth 100000
def SD.hd (s : SD) (k : List Int) : Option Int := (fnd s.rows k).map fun r => gi r 3
theorem put_ok {s : SD} {key val : List V} (h : s.rows.length < 20 ∨ s.hd (Zq key) ≠ none) : (s.put key val).1 = true := by
  unfold SD.put
  cases hf : Zr (fun i => neq (gl (rd s.rows i) 0) key) 0 s.rows.length with
  | some j => rfl
  | none =>
    rcases h with h | h
    · rw [decide_eq_false (show ¬ 20 ≤ s.rows.length by omega)]; rfl
    · exact absurd (by unfold SD.hd; rw [Zeb (Zeq hf)]; rfl) h
end Go.Eng.R
open Go Go.Eng
namespace Go.Eng.R
set_option maxRecDepth 100000
end Go.Eng.R
open Go Go.Eng
namespace Go.Eng.R
set_option maxRecDepth 100000
end Go.Eng.R
open Go Go.Eng
namespace Go.Eng.R
theorem Zhu {x : V} (h : WtT tab Zc x) : ZS x := wt_u8 (h.cell 0 rfl)
def ZgK : List TypeId := [5, 22]
end Go.Eng.R
