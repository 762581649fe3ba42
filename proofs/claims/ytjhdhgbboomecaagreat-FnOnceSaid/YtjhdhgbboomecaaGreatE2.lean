/- An own evaluator of the program's form, proved sound, and what it says of this law's functions: part 2. -/
import Derived.Test.YtjhdhgbboomecaaGreatE1
import Derived.IntWalk
set_option linter.unusedVariables false
namespace Go.Eng
section
variable {P : Program}
theorem MemOk.world {tab : Tab} {E : Entry} {M : Mem} (h : MemOk tab E M) {w' : World} (hh : w'.heap = M.w.heap) (h1 : w'.os = M.w.os) (h2 : w'.tape = M.w.tape) (h3 : w'.output = M.w.output) :
    MemOk tab E { M with w := w' } ∧ MemLe E M { M with w := w' } := by
  refine h.move (M' := { M with w := w' }) (fun _ => False) (fun id _ => ⟨rfl, rfl, rfl, rfl⟩) (fun _ _ h => h) (fun g _ => by simp [hh]) (fun id _ g _ => by simp [hh])
    ⟨h1, h2, h3, by simp [hh], fun g _ _ => by simp [hh]⟩ (fun g _ _ => by simp [hh]) (fun id h => h.elim) (fun id h => h.elim) (fun id h => h.elim) (fun id _ h => h.elim) (fun id h => h.elim) (fun id h => h.elim) (fun _ id h => h.elim)
def Zhm (ops : Array Oper) (bef : List Nat) : Bool :=
  (List.range ops.size).all fun j => match ops[j]? with
    | none => true
    | some oj => oj.after.all (fun e => !Region.binds .any e || decide (e.on < j)) && (List.range j).all fun i => match ops[i]? with
      | none => true
      | some oi => (bef.getD j 0).testBit i || oi.apart ops oj
theorem Ziw {ops : Array Oper} {bef : List Nat} (h : Zhm ops bef = true) {j : Nat} {oj : Oper} (hj : ops[j]? = some oj) :
    (∀ e ∈ oj.after, Region.binds .any e = true → e.on < j) ∧ ∀ i oi, i < j → ops[i]? = some oi → (bef.getD j 0).testBit i = true ∨ oi.apart ops oj = true := by
  unfold Zhm at h
  rw [List.all_eq_true] at h
  have h1 := h j (List.mem_range.2 (Array.getElem?_eq_some_iff.1 hj).1)
  simp only [hj, Bool.and_eq_true] at h1
  obtain ⟨h1, h2⟩ := h1
  refine ⟨fun e he hb => ?_, fun i oi hij hi => ?_⟩
  · have := Array.all_eq_true_iff_forall_mem.1 h1 e he
    simpa [hb] using this
  · rw [List.all_eq_true] at h2
    have := h2 i (List.mem_range.2 hij)
    simpa [hi] using this
theorem ZhO {a b : List Nat} (h : ZgO a b = false) : ∀ k ∈ a, k ∉ b := by
  intro k hk hb
  have : ZgO a b = true := List.any_eq_true.2 ⟨k, hk, by simpa using hb⟩
  rw [h] at this; cases this
theorem ZhP {a b : Rec} (h : Zeg a b = false) : ((∀ k ∈ a.mods, k ∉ b.log ∧ k ∉ b.mods) ∧ ∀ k ∈ a.log, k ∉ b.mods) ∧ (a.all = true → b.mods = []) ∧ (b.all = true → a.mods = []) := by
  have heeds : ∀ c : Rec, c.heeds = false → c.mods = [] := fun c hc => by
    simp only [Rec.heeds, Bool.or_eq_false_iff, Bool.not_eq_false', List.isEmpty_iff] at hc
    exact hc.2.2
  simp only [Zeg, Bool.or_eq_false_iff, Bool.and_eq_false_iff] at h
  obtain ⟨⟨⟨h1, h2⟩, h3⟩, h4, h5⟩ := h
  exact ⟨⟨fun k hk => ⟨ZhO h1 k hk, ZhO h2 k hk⟩, ZhO h3⟩, fun e => heeds b (h4.resolve_left (by rw [e]; simp)), fun e => heeds a (h5.resolve_left (by rw [e]; simp))⟩
theorem Zhn {bef : List Nat} {i : Nat} {a : Rec} : ∀ (tr : List (Nat × Rec)), ZgP bef i a tr = true → ∀ p ∈ tr, Zeg a p.2 = false ∨ (bef.getD p.1 0).testBit i = true
  | [], _, p, hp => by cases hp
  | (j, b) :: tr, h, p, hp => by
    simp only [ZgP, Bool.and_eq_true, Bool.or_eq_true, Bool.not_eq_true'] at h
    rcases List.mem_cons.1 hp with rfl | hp
    · exact h.1.symm
    · exact Zhn tr h.2 p hp
theorem Zix : ∀ (tr : List Rec) (i0 j : Nat) (b : Rec), tr[j]? = some b → b.heeds = true → (i0 + j, b) ∈ Zfv i0 tr
  | [], _, j, b, hb, _ => by simp at hb
  | r :: tr, i0, j, b, hb, hh => by
    unfold Zfv
    cases j with
    | zero => simp at hb; subst hb; rw [hh]; simp
    | succ j =>
      have := Zix tr (i0 + 1) j b (by simpa using hb) hh
      rw [show i0 + 1 + j = i0 + (j + 1) from by omega] at this
      cases r.heeds
      · exact this
      · exact List.mem_cons_of_mem _ this
theorem Zjz {a b : Rec} (h : a.heeds = false ∨ b.heeds = false) : Zeg a b = false := by
  have q : ∀ c : Rec, c.heeds = false → c.all = false ∧ c.log = [] ∧ c.mods = [] := fun c hc => by simpa [Rec.heeds] using hc
  rcases h with h | h
  · obtain ⟨h1, h2, h3⟩ := q a h
    simp [Zeg, ZgO, h, h1, h2, h3]
  · obtain ⟨h1, h2, h3⟩ := q b h
    simp [Zeg, ZgO, h, h1, h2, h3]
theorem Zh7 {bef : List Nat} : ∀ (tr : List Rec) (i0 : Nat), ZcU bef i0 tr = true → ∀ i j a b, i < j → tr[i]? = some a → tr[j]? = some b → Zeg a b = false ∨ (bef.getD (i0 + j) 0).testBit (i0 + i) = true
  | [], i0, _, i, j, a, b, _, ha, _ => by simp at ha
  | c :: tr, i0, h, i, j, a, b, hij, ha, hb => by
    obtain ⟨j, rfl⟩ : ∃ k, j = k + 1 := ⟨j - 1, by omega⟩
    have hb : tr[j]? = some b := by simpa using hb
    cases hbh : b.heeds with
    | false => exact .inl (Zjz (.inr hbh))
    | true =>
    unfold ZcU Zfv at h
    cases i with
    | zero =>
      simp at ha; subst ha
      cases hc : c.heeds with
      | false => exact .inl (Zjz (.inl hc))
      | true =>
        rw [hc, cond_true, Zkm, Bool.and_eq_true] at h
        have := Zhn _ h.1 _ (Zix tr (i0 + 1) j b hb hbh)
        rwa [show i0 + 1 + j = i0 + (j + 1) from by omega] at this
    | succ i =>
      have h' : ZcU bef (i0 + 1) tr = true := by
        cases hc : c.heeds with
        | false => rw [hc] at h; exact h
        | true => rw [hc, cond_true, Zkm, Bool.and_eq_true] at h; exact h.2
      have := Zh7 tr (i0 + 1) h' i j a b (by omega) (by simpa using ha) hb
      rwa [show i0 + 1 + j = i0 + (j + 1) from by omega, show i0 + 1 + i = i0 + (i + 1) from by omega] at this
theorem ZnU {tr : List Rec} (h : ZdZ tr = true) {a b : Rec} (ha : a ∈ tr) (hb : b ∈ tr) : Zeg a b = false := by
  simp only [ZdZ, List.all_eq_true] at h
  have h1 : a.mods = [] ∧ a.all = false := by simpa using h a ha
  have h2 : b.mods = [] ∧ b.all = false := by simpa using h b hb
  simp [Zeg, ZgO, h1.1, h2.1, h1.2, h2.2]
theorem ZjA {p q : Nat → Bool} {i : Nat} (hi : p i = true) (hq : q i = false) (hne : ∀ j, j ≠ i → q j = p j) : ∀ {l : List Nat}, l.Nodup → i ∈ l → (l.filter q).length + 1 = (l.filter p).length
  | [], _, h => by simp at h
  | x :: l, hn, h => by
    rw [List.nodup_cons] at hn
    by_cases e : x = i
    · subst e
      have : l.filter q = l.filter p := List.filter_congr fun y hy => hne y fun e' => hn.1 (e' ▸ hy)
      simp [hi, hq, this]
    · have ih := ZjA hi hq hne hn.2 ((List.mem_cons.1 h).resolve_left (Ne.symm e))
      simp only [List.filter_cons, hne x e]
      split
      · simp only [List.length_cons]; omega
      · exact ih
theorem ZkK (hmix : P.follows .mixedOrders = true) {tab : Tab} {E : Entry} {ρ0 : Mem} {ops : Array Oper} {Q : Exit → Act → World → Prop} {F : Fs} {es : List Ent} {rs : List Rec} {M : Mem} {a : Act} {rid : Nat} (hR : RelF tab E ρ0 M F a)
    (hlen : es.length = ops.toList.length) (hrl : rs.length = es.length) (hdst : ∀ (j : Nat) (o : Oper) (e : Ent), ops[j]? = some o → es[j]? = some e → e.dst = o.dst) (hmods : ∀ (j : Nat) (e : Ent) (r : Rec), es[j]? = some e → rs[j]? = some r → r.mods = e.mods)
    (hpairs : Zhm ops (Region.before ops).toList = true) (hclash : (ZdZ rs || ZcU (Region.before ops).toList 0 rs) = true)
    (hstep : ∀ (i : Nat) (o : Oper) (e : Ent) (r : Rec), ops[i]? = some o → es[i]? = some e → rs[i]? = some r → ∀ F' : Fs, (∀ t ∈ o.looksAt ops, F'.sl t = (Zac F (es.take i)).sl t) → (∀ k ∈ r.log, F'.hp k = (Zac F (es.take i)).hp k) →
      (r.all = true → F'.hp = (Zac F (es.take i)).hp) → (∀ k ∈ e.mods, F'.hp k = (Zac F (es.take i)).hp k) → ∀ (M' : Mem) (a' : Act), RelF tab E ρ0 M' F' a' → a'.tmps.size = a.tmps.size → ∀ K : Act → World → Prop,
      (∀ M'' v, RelF tab E ρ0 M'' (ZaM F' e) (a'.put o.dst v) → (a'.put o.dst v).tmps.size = a'.tmps.size → (a'.put o.dst v).defers = a'.defers → K (a'.put o.dst v) M''.w) → wpOp P ops Q i K a' M'.w)
    (hK : ∀ M' a', RelF tab E ρ0 M' (Zac F es) a' → a'.tmps.size = a.tmps.size → a'.defers = a.defers → Q .normal a' M'.w) : (Code.region rid ops true).wp P Q a M.w := by
  refine wp_region_any hmix ?_
  have hbefD : ∀ j, (Region.before ops).toList.getD j 0 = (Region.before ops).getD j 0 := fun j => by simp [List.getD, Array.getD_eq_getD_getElem?]
  have hrec : ∀ (j : Nat) (e : Ent), es[j]? = some e → ∃ r, rs[j]? = some r ∧ r.mods = e.mods := fun j e hj => by
    have hjl : j < rs.length := by rw [hrl]; exact (List.getElem?_eq_some_iff.1 hj).1
    exact ⟨_, List.getElem?_eq_getElem hjl, hmods j e _ hj (List.getElem?_eq_getElem hjl)⟩
  have hpair : ∀ (i j : Nat) (oi oj : Oper) (ei ej : Rec), i < j → ops[i]? = some oi → ops[j]? = some oj → rs[i]? = some ei → rs[j]? = some ej →
      ((Region.before ops).getD j 0).testBit i = true ∨ (oi.apart ops oj = true ∧ Zeg ei ej = false) := by
    intro i j oi oj ei ej hij h1 h2 h3 h4
    rcases (Ziw hpairs h2).2 i oi hij h1 with h | h
    · rw [hbefD] at h; exact .inl h
    · rcases Bool.or_eq_true_iff.1 hclash with hc | hc
      · exact .inr ⟨h, ZnU hc (List.mem_of_getElem? h3) (List.mem_of_getElem? h4)⟩
      · rcases Zh7 _ 0 hc i j ei ej hij h3 h4 with hc | hc
        · exact .inr ⟨h, hc⟩
        · rw [hbefD] at hc; simp only [Nat.zero_add] at hc; exact .inl hc
  have main : ∀ (fuel : Nat) (listed : Array Bool) (a' : Act) (M' : Mem), listed.size = ops.size →
      (∀ j o, ops[j]? = some o → listed.getD j false = true → ∀ e ∈ o.after, Region.binds .any e = true → listed.getD e.on false = true) →
      RelF tab E ρ0 M' (Zch (fun j => listed.getD j false) 0 F es) a' → a'.tmps.size = a.tmps.size → a'.defers = a.defers →
      ((List.range ops.size).filter fun j => !listed.getD j true).length ≤ fuel → wpAny P .any ops Q fuel listed a' M'.w := by
    have hdone : ∀ (listed : Array Bool) (a' : Act) (M' : Mem), listed.size = ops.size → (∀ j, j < ops.size → listed.getD j true = true) →
        RelF tab E ρ0 M' (Zch (fun j => listed.getD j false) 0 F es) a' → a'.tmps.size = a.tmps.size → a'.defers = a.defers → Q .normal a' M'.w := by
      intro listed a' M' hsz hall hR' h1 h2
      refine hK M' a' ?_ h1 h2
      rw [ZmR] at hR'
      · exact hR'
      · intro j hj
        have hj' : j < ops.size := by rw [hlen] at hj; simpa using hj
        have := hall j hj'
        have hj2 : j < listed.size := by omega
        simp only [Nat.zero_add]
        simpa [Array.getD_eq_getD_getElem?, hj2] using this
    have hfull : ∀ (listed : Array Bool), listed.size = ops.size → Region.ready .any ops listed = [] → ∀ j, j < ops.size → listed.getD j true = true := by
      intro listed hsz hr j
      induction j using Nat.strongRecOn with
      | ind j ih =>
        intro hj
        cases hb : listed.getD j true with
        | true => rfl
        | false =>
          have ho : ops[j]? = some ops[j] := Array.getElem?_eq_getElem hj
          have : j ∈ Region.ready .any ops listed := by
            refine mem_ready.2 ⟨hb, _, ho, fun e he hbd => ?_⟩
            have hlt := (Ziw hpairs ho).1 e he hbd
            have h1 := ih e.on hlt (by omega)
            by_cases hls : e.on < listed.size
            · simpa [Array.getD_eq_getD_getElem?, hls] using h1
            · omega
          rw [hr] at this; cases this
    intro fuel
    induction fuel with
    | zero =>
      intro listed a' M' hsz hdown hR' h1 h2 hcnt
      have hall : ∀ j, j < ops.size → listed.getD j true = true := by
        intro j hj
        cases hb : listed.getD j true with
        | true => rfl
        | false =>
          have : j ∈ (List.range ops.size).filter fun j => !listed.getD j true := List.mem_filter.2 ⟨List.mem_range.2 hj, by simp [hb]⟩
          have := List.length_pos_of_mem this
          omega
      refine ⟨?_, hdone listed a' M' hsz hall hR' h1 h2⟩
      unfold Region.ready
      rw [List.filter_eq_nil_iff]
      intro j hj
      simp [hall j (List.mem_range.1 hj)]
    | succ fuel ih =>
      intro listed a' M' hsz hdown hR' h1 h2 hcnt
      refine ⟨fun hr => hdone listed a' M' hsz (hfull listed hsz hr) hR' h1 h2, fun i hi => ?_⟩
      obtain ⟨hun, oi, hoi, hafter⟩ := mem_ready.1 hi
      have hilt : i < ops.size := (Array.getElem?_eq_some_iff.1 hoi).1
      have hSi : listed.getD i false = false := by
        have hi2 : i < listed.size := by omega
        simpa [Array.getD_eq_getD_getElem?, hi2] using hun
      obtain ⟨ei, hei⟩ : ∃ ei, es[i]? = some ei := by
        have hil : i < es.length := by rw [hlen]; simpa using hilt
        exact ⟨_, List.getElem?_eq_getElem hil⟩
      obtain ⟨ri, hri, hrm⟩ := hrec i ei hei
      have hop : ∀ (j : Nat) (e : Ent), es[j]? = some e → ∃ o, ops[j]? = some o := fun j e hj => by
        have : j < ops.size := by have := (List.getElem?_eq_some_iff.1 hj).1; rw [hlen] at this; simpa using this
        exact ⟨_, Array.getElem?_eq_getElem this⟩
      have hpre : ∀ j e o r, es[j]? = some e → ops[j]? = some o → rs[j]? = some r → j < i → listed.getD j false = false → o.apart ops oi = true ∧ Zeg r ri = false := by
        intro j e o r hej hoj hrj hlt hns
        rcases hpair j i o oi r ri hlt hoj hoi hrj hri with h | h
        · have := Zju (ops := ops) (S := fun k => k = i ∨ listed.getD k false = true) (fun k o' hk hs e' he' hb => ?_) (.inl rfl) h
          · rcases this with h | h
            · omega
            · rw [hns] at h; cases h
          · rcases hs with rfl | hs
            · rw [hoi] at hk; cases hk; exact .inr (hafter e' he' hb)
            · exact .inr (hdown k o' hk hs e' he' hb)
        · exact h
      have hpost : ∀ j e o r, es[j]? = some e → ops[j]? = some o → rs[j]? = some r → i ≤ j → listed.getD j false = true → oi.apart ops o = true ∧ Zeg ri r = false := by
        intro j e o r hej hoj hrj hge hs
        have hne : i ≠ j := fun e' => by subst e'; rw [hSi] at hs; cases hs
        rcases hpair i j oi o ri r (by omega) hoi hoj hri hrj with h | h
        · have := Zju (ops := ops) (S := fun k => listed.getD k false = true) hdown hs h
          rw [hSi] at this; cases this
        · exact h
      have hslot : ∀ t ∈ oi.looksAt ops, (Zch (fun j => listed.getD j false) 0 F es).sl t = (Zac F (es.take i)).sl t := by
        intro t ht
        refine ZpK (fun j e hej hlt hns => ?_) (fun j e hej hge hs => ?_)
        · obtain ⟨o, hoj⟩ := hop j e hej
          obtain ⟨r, hrj, -⟩ := hrec j e hej
          rw [hdst j o e hoj hej]
          exact fun hd' => (Oper.apart_spec (hpre j e o r hej hoj hrj hlt hns).1).1 t hd' ht
        · obtain ⟨o, hoj⟩ := hop j e hej
          obtain ⟨r, hrj, -⟩ := hrec j e hej
          rw [hdst j o e hoj hej]
          exact fun hd' => (Oper.apart_spec (hpost j e o r hej hoj hrj hge hs).1).2.2 t hd' ht
      have hheap : ∀ k, (k ∈ ri.log ∨ k ∈ ei.mods ∨ ri.all = true) → (Zch (fun j => listed.getD j false) 0 F es).hp k = (Zac F (es.take i)).hp k := by
        intro k hk
        refine ZpL (fun j e hej hlt hns hke => ?_) (fun j e hej hge hs hke => ?_)
        · obtain ⟨o, hoj⟩ := hop j e hej
          obtain ⟨r, hrj, hm⟩ := hrec j e hej
          obtain ⟨c1, c2, c3⟩ := ZhP (hpre j e o r hej hoj hrj hlt hns).2
          rw [← hm] at hke
          rcases hk with hk | hk | hk
          · exact (c1.1 k hke).1 hk
          · rw [← hrm] at hk; exact (c1.1 k hke).2 hk
          · rw [c3 hk] at hke; cases hke
        · obtain ⟨o, hoj⟩ := hop j e hej
          obtain ⟨r, hrj, hm⟩ := hrec j e hej
          obtain ⟨c1, c2, c3⟩ := ZhP (hpost j e o r hej hoj hrj hge hs).2
          rw [← hm] at hke
          rcases hk with hk | hk | hk
          · exact c1.2 k hk hke
          · rw [← hrm] at hk; exact (c1.1 k hk).2 hke
          · rw [c2 hk] at hke; cases hke
      refine hstep i oi ei ri hoi hei hri _ hslot (fun k hk => hheap k (.inl hk)) (fun e => funext fun k => hheap k (.inr (.inr e))) (fun k hk => hheap k (.inr (.inl hk))) M' a' hR' h1 _ fun M'' v hR'' hsz' hdf' => ?_
      refine ih (listed.setIfInBounds i true) _ M'' (by simp [hsz]) (fun j o hj hs e' he' hb => ?_) ?_ (hsz'.trans h1) (hdf'.trans h2) ?_
      · by_cases hji : j = i
        · subst hji
          rw [hoi] at hj; cases hj
          exact getD_set_true (hafter e' he' hb)
        · rw [getD_set_ne false (Ne.symm hji)] at hs
          exact getD_set_true (hdown j o hj hs e' he' hb)
      · rw [ZmT (S := fun j => listed.getD j false) es i 0 F hei (by simpa using hSi) (by
            have hi2 : i < listed.size := by omega
            simp [Array.getD_eq_getD_getElem?, hi2]) (fun j hj => getD_set_ne false (by simpa using Ne.symm hj)) fun j e hij hej hs => ?_]
        · exact hR''
        · obtain ⟨o, hoj⟩ := hop j e hej
          obtain ⟨r, hrj, hm⟩ := hrec j e hej
          obtain ⟨p1, p2⟩ := hpost j e o r hej hoj hrj (by omega) (by simpa using hs)
          refine ⟨fun d hd' => ?_, fun k hk hk' => ((ZhP p2).1.1 k (by rw [hrm]; exact hk)).2 (by rw [hm]; exact hk')⟩
          rw [hdst j o e hoj hej]
          rw [hdst i oi ei hoi hei] at hd'
          exact (Oper.apart_spec p1).2.1 d hd'
      · have hi2 : i < listed.size := by omega
        have := ZjA (p := fun j => !listed.getD j true) (q := fun j => !(listed.setIfInBounds i true).getD j true) (i := i) (by simp [hun]) (by simp [Array.getD_eq_getD_getElem?, hi2])
          (fun j hj => by rw [getD_set_ne true (Ne.symm hj)]) (List.nodup_range (n := ops.size)) (List.mem_range.2 hilt)
        omega
  obtain ⟨m1, m2⟩ := hR.mem.world (w' := { M.w with drawn := M.w.drawn + 1 }) rfl rfl rfl rfl
  refine main ops.size (Array.replicate ops.size false) a { M with w := { M.w with drawn := M.w.drawn + 1 } } (by simp) (fun j o hj hs => ?_) ?_ rfl rfl ?_
  · simp [Array.getD_eq_getD_getElem?, Array.getElem?_replicate] at hs
    split at hs <;> simp_all
  · rw [ZlL]
    · exact ⟨m1, hR.le.trans m2, hR.hp, fun t => m2.rs (hR.slots t)⟩
    · intro j hj
      simp [Array.getD_eq_getD_getElem?, Array.getElem?_replicate]
      split <;> simp
  · exact Nat.le_trans (List.length_filter_le _ _) (by simp)
theorem ZnV {cfg : Cfg} (hT : Zx P cfg.tab) (hS : Zbh P cfg.tab cfg.sums) (hmix : P.follows .mixedOrders = true) {E : Entry} {ρ0 : Mem} {ops : Array Oper} {Q : Exit → Act → World → Prop} {F : Fs} {nid : Nat} {es : List Ent} {M : Mem} {a : Act} {rid : Nat}
    (he : Ents cfg ops.toList F nid ops.toList es) (hR : RelF cfg.tab E ρ0 M F a) (hf : ∀ id, nid ≤ id → F.hp id = none) (hd : ∀ o ∈ ops.toList, ∀ d, o.dst = some d → d < a.tmps.size)
    (hpairs : Zhm ops (Region.before ops).toList = true) (hclash : (ZdZ (es.map Ent.recd) || ZcU (Region.before ops).toList 0 (es.map Ent.recd)) = true)
    (hK : ∀ M' a', RelF cfg.tab E ρ0 M' (Zac F es) a' → a'.tmps.size = a.tmps.size → a'.defers = a.defers → Q .normal a' M'.w) : (Code.region rid ops true).wp P Q a M.w := by
  obtain ⟨hlen, hget⟩ := he.get
  have hent : ∀ (i : Nat) (o : Oper) (e : Ent), ops[i]? = some o → es[i]? = some e → Zi1 cfg ops.toList (Zac F (es.take i)) (Zfd nid (es.take i)) o e := fun i o e ho hei => by
    obtain ⟨e', h1, h2⟩ := hget i o (by simpa using ho)
    rw [hei] at h1; cases h1; exact h2
  refine ZkK hmix hR hlen (by simp) (fun j o e ho hej => (hent j o e ho hej).1) (fun j e r hej hr => by rw [List.getElem?_map, hej] at hr; cases hr; rfl) hpairs hclash
    (fun i o e r ho hei hr F' hsl hlog _ hmo M' a' hR' hsz K hK' => ?_) hK
  rw [List.getElem?_map, hei] at hr
  cases hr
  obtain ⟨e1, e2⟩ := hent i o e ho hei
  have hw : Zbt ops.toList F' o = Zbt ops.toList (Zac F (es.take i)) o := by
    unfold Zbt
    cases hg : o.guard with
    | none => rfl
    | some gw =>
      obtain ⟨g, want⟩ := gw
      simp only []
      cases ht : (ops.toList[g]?).bind (·.dst) with
      | none => rfl
      | some t =>
        simp only []
        rw [hsl t]
        unfold Oper.looksAt
        rw [hg]
        refine List.mem_append_right _ ?_
        simp only []
        rw [Array.getElem?_toList] at ht
        simp [ht]
  refine ZmQ hT hS hR' ho (nid := Zfd nid (es.take i)) ⟨e1, ?_⟩ (fun id hid hge => ?_) (fun d hd' => by rw [hsz]; exact hd o (by simpa using Array.mem_of_getElem? ho) d hd') hK'
  · rcases e2 with ⟨q1, q2⟩ | ⟨q1, q2⟩
    · refine .inl ⟨hw.trans q1, ?_⟩
      have hc : ZbP cfg (Zfd nid (es.take i)) o (ev F'.sl) = ZbP cfg (Zfd nid (es.take i)) o (ev (Zac F (es.take i)).sl) :=
        Zjy _ _ _ fun x hx => by
          cases x with
          | tmp t => exact hsl t (List.mem_append_left _ (List.mem_filterMap.2 ⟨.tmp t, by simpa using hx, rfl⟩))
          | _ => rfl
      rw [hc]
      exact Zjx _ _ _ _ _ _ _ _ q2 hlog
    · exact .inr ⟨hw.trans q1, q2⟩
  · rw [hmo id hid]; exact Zis hf (es.take i) id hge
end
end Go.Eng
namespace Go.Eng
section
variable {P : Program} {tab : Tab}
structure Rel (tab : Tab) (E : Entry) (N : Nat) (ps : List (V × Value)) (M : Mem) (s : St) (a : Act) : Prop where
  rel : RelF tab E M M s.F a
  lent : LentL tab M ps s.lent
  fresh : ∀ id, s.nid ≤ id → s.heap id = none
  size : a.tmps.size = N
  defers : a.defers = []
theorem ZcY {l r : List Nat} (h : l.Nodup) : (ZcN l r).Nodup := by
  induction r generalizing l with
  | nil => exact h
  | cons x r ih =>
    simp only [ZcN]
    cases hc : l.contains x with
    | true => exact ih h
    | false =>
      refine ih ?_
      rw [List.nodup_append]
      refine ⟨h, by simp, fun a ha b hb e => ?_⟩
      simp at hb; subst hb; subst e
      simp at hc; exact hc ha
theorem ZkL {ids : List Nat} {id k : Nat} (h : Zbr ids id = some k) : ids[k]? = some id := by
  unfold Zbr at h
  rw [List.idxOf?_eq_some_iff] at h
  obtain ⟨hk, he, _⟩ := h
  rw [List.getElem?_eq_getElem hk, he]
theorem Zf5 : ∀ (bs : List (Option Blk)) (n k : Nat), (look (ZeO n bs) k : Option (Option Blk)) = if n ≤ k then bs[k - n]? else none
  | [], n, k => by simp [ZeO, Zgq]
  | b :: bs, n, k => by
    simp only [ZeO]
    rw [ZB, Zf5 bs (n + 1) k]
    by_cases h1 : k = n
    · subst h1; simp
    · by_cases h2 : n ≤ k
      · have : k - n = (k - (n + 1)) + 1 := by omega
        rw [if_neg h1, if_pos (by omega), if_pos h2, this]; simp
      · rw [if_neg h1, if_neg (by omega), if_neg h2]
noncomputable def Mem.ren (M : Mem) (ids : List Nat) : Mem :=
  { w := M.w
    ρ := fun k => ids[k]?.bind M.ρ
    top := fun k => match ids[k]? with | some id => (match Zcr ids (M.hp id) with | some _ => M.top id | none => []) | none => []
    nest := fun k => match ids[k]? with | some id => (match Zcr ids (M.hp id) with | some _ => M.nest id | none => []) | none => []
    hp := look (ZeO 0 (ids.map fun id => Zcr ids (M.hp id))) }
theorem ZmW {E : Entry} {M : Mem} {ids : List Nat} : ∀ g, okS E M g → okS E (M.ren ids) g := by
  rintro g ⟨h1, h2, h3⟩
  refine ⟨h1, h2, fun k hk => ?_⟩
  simp only [Mem.ren] at hk
  split at hk
  · split at hk
    · exact h3 _ hk
    · simp at hk
  · simp at hk
theorem Zlv {E : Entry} {M : Mem} {ids : List Nat} {x : V} {v : Value} (h : M.Rs tab E x v) : (M.ren ids).Rs tab E (Zfw ids x) v := by
  have hρ : ∀ id k, Zbr ids id = some k → (M.ren ids).ρ k = M.ρ id := fun id k hk => by simp [Mem.ren, ZkL hk]
  cases h with
  | tree h =>
    have := h.keep (w' := (M.ren ids).w) (ok' := okS E (M.ren ids)) ZmW fun _ _ => rfl
    cases h <;> first | exact .tree this | exact .tree (.dead _)
  | sl id T off len sz N a a' cap n h1 h2 h3 h4 h5 h6 =>
    simp only [Zfw]
    cases hk : Zbr ids id with
    | none => exact .tree (.dead _)
    | some k => exact .sl k T off len sz N a a' cap n (by rw [hρ id k hk]; exact h1) h2 h3 h4 h5 h6
  | bp id off g h1 =>
    simp only [Zfw]
    cases hk : Zbr ids id with
    | none => exact .tree (.dead _)
    | some k => exact .bp k off g (by rw [hρ id k hk]; exact h1)
  | rp id idx off T sz N g cap h1 h2 =>
    simp only [Zfw]
    cases hk : Zbr ids id with
    | none => exact .tree (.dead _)
    | some k => exact .rp k idx off T sz N g cap (by rw [hρ id k hk]; exact h1) h2
  | _ => exact .tree (.dead _)
theorem ZgR {E : Entry} {M : Mem} {ids : List Nat} {cs : List V} {vals : List Value} (hl : vals.length = cs.length) (h : ∀ j, j < cs.length → M.Rs tab E (cs.getD j .dead) (vals.getD j undef)) :
    vals.length = (cs.map (Zfw ids)).length ∧ ∀ j, j < (cs.map (Zfw ids)).length → (M.ren ids).Rs tab E ((cs.map (Zfw ids)).getD j .dead) (vals.getD j undef) := by
  refine ⟨by simpa using hl, fun j hj => ?_⟩
  simp at hj
  have := Zlv (ids := ids) (h j hj)
  simpa [List.getD, hj] using this
theorem renV_rs {E : Entry} {M : Mem} {ids : List Nat} {x : V} {v : Value} (h : M.Rs tab E x v) : (M.ren ids).Rs tab E (renV ids x) v := by
  cases x with
  | agg cs =>
    obtain ⟨vals, rfl, hl, hj⟩ := h.agg_inv
    obtain ⟨h1, h2⟩ := ZgR (ids := ids) hl hj
    exact .agg _ _ h1 h2
  | tup cs =>
    obtain ⟨vals, rfl, hl, hj⟩ := h.tup_inv
    obtain ⟨h1, h2⟩ := ZgR (ids := ids) hl hj
    exact .tup _ _ h1 h2
  | fn f cs =>
    obtain ⟨vals, rfl, hl, hj⟩ := h.fn_inv
    obtain ⟨h1, h2⟩ := ZgR (ids := ids) hl hj
    exact .fn _ _ _ h1 h2
  | _ => exact Zlv h
theorem ren_mem {E : Entry} {M : Mem} (h : MemOk tab E M) {ids : List Nat} (hn : ids.Nodup) : MemOk tab E (M.ren ids) := by
  have hhp : ∀ k, (M.ren ids).hp k = ids[k]?.map fun id => Zcr ids (M.hp id) := fun k => by
    simp only [Mem.ren]
    rw [Zf5]; simp
  have hcase : ∀ k, ((M.ren ids).top k = [] ∧ (M.ren ids).nest k = [] ∧ (ids[k]? = none → (M.ren ids).ρ k = none) ∧ ∀ id, ids[k]? = some id → Zcr ids (M.hp id) = none) ∨
      ∃ id, ids[k]? = some id ∧ (M.ren ids).top k = M.top id ∧ (M.ren ids).nest k = M.nest id ∧ (M.ren ids).ρ k = M.ρ id ∧ Zcr ids (M.hp id) ≠ none := fun k => by
    cases hk : ids[k]? with
    | none => simp [Mem.ren, hk]
    | some id =>
      cases hr : Zcr ids (M.hp id) with
      | none => simp [Mem.ren, hk, hr]
      | some b => exact .inr ⟨id, rfl, by simp [Mem.ren, hk, hr], by simp [Mem.ren, hk, hr], by simp [Mem.ren, hk], by simp [hr]⟩
  refine ⟨fun k b hb => ?_, fun k hb => ?_, fun k hb => ?_, fun k => ?_, fun k k' hne g hg hg' => ?_, fun k g hg => ?_, fun k g hg => ?_, h.kept⟩
  · rw [hhp] at hb
    rcases hcase k with ⟨_, _, _, e4⟩ | ⟨id, e, e1, e2, e3, -⟩
    · cases hk : ids[k]? with
      | none => simp [hk] at hb
      | some id => rw [hk] at hb; simp [e4 id hk] at hb
    · rw [e] at hb
      simp only [Option.map_some, Option.some.injEq] at hb
      rw [e1, e2, e3]
      cases hq : M.hp id with
      | none => rw [hq] at hb; simp [Zcr] at hb
      | some ob =>
        cases ob with
        | none => rw [hq] at hb; simp [Zcr] at hb
        | some blk =>
          have hB := h.blocks id blk hq
          rw [hq] at hb
          cases blk with
          | box T cs =>
            simp only [Zcr, Option.some.injEq] at hb
            subst hb
            obtain ⟨g, c, TT, q1, q2, q3, q4, q5, q6⟩ := hB
            obtain ⟨r1, r2⟩ := ZgR (ids := ids) (cs := cs) (vals := c.toList) (by simp [q3]) fun j hj => by rw [Zbg]; exact q4 j hj
            exact ⟨g, c, TT, q1, q2, by simpa using r1, fun j hj => by have := r2 j hj; rw [Zbg] at this; exact this, q5, q6⟩
          | row T own els =>
            simp only [Zcr, Option.some.injEq] at hb
            subst hb
            obtain ⟨ty, v, q1, q2, q3, q4⟩ := hB
            exact ⟨ty, v, q1, q2, q3.keep ZmW (fun _ _ => rfl) (fun _ _ => rfl), q4⟩
          | drow T els =>
            simp only [Zcr, Option.some.injEq] at hb
            subst hb
            obtain ⟨ty, v, n, q1, q2, q3, q4, q5⟩ := hB
            exact ⟨ty, v, n, q1, q2, q3.keep ZmW (fun _ _ => rfl) (fun _ _ => rfl), q4, q5⟩
          | hrow T els idx off j => simp [Zcr] at hb
          | grow T cs =>
            simp only [Zcr, Option.some.injEq] at hb
            subst hb
            obtain ⟨ty, v, xs, q1, q2, q3, q4, q5, q6, q7⟩ := hB
            refine ⟨ty, v, xs, q1, q2, by rw [List.length_map]; exact q3, by rw [List.length_map]; exact q4, fun j hj => ?_, q6, q7⟩
            have hj : j < cs.length := by simpa using hj
            have := Zlv (ids := ids) (q5 j hj)
            simpa [List.getD, hj] using this
  · rcases hcase k with ⟨e1, e2, e3, _⟩ | ⟨id, e, _⟩
    · cases hk : ids[k]? with
      | none => exact ⟨e3 hk, e1, e2⟩
      | some id => rw [hhp, hk] at hb; simp at hb
    · rw [hhp, e] at hb; simp at hb
  · rcases hcase k with ⟨e1, e2, _, _⟩ | ⟨id, e, e1, e2, _, e4⟩
    · exact ⟨e1, e2⟩
    · rw [hhp, e] at hb
      simp only [Option.map_some, Option.some.injEq] at hb
      exact absurd hb e4
  · rcases hcase k with ⟨e1, e2, _⟩ | ⟨id, _, e1, e2, _⟩
    · rw [e1, e2]; simp
    · rw [e1, e2]; exact h.nodup id
  · rcases hcase k with ⟨e1, e2, _⟩ | ⟨id, q1, e1, e2, _⟩
    · rw [e1, e2] at hg; simp at hg
    · rcases hcase k' with ⟨e1', e2', _⟩ | ⟨id', q1', e1', e2', _⟩
      · rw [e1', e2'] at hg'; simp at hg'
      · rw [e1, e2] at hg; rw [e1', e2'] at hg'
        refine h.apart id id' (fun e => hne ?_) g hg hg'
        subst e
        have l1 := (List.getElem?_eq_some_iff.1 q1).1
        exact (List.getElem?_inj l1 hn).1 (q1.trans q1'.symm)
  · rcases hcase k with ⟨e1, e2, _⟩ | ⟨id, _, e1, e2, _⟩
    · rw [e1, e2] at hg; simp at hg
    · rw [e1, e2] at hg; exact h.mine id g hg
  · rcases hcase k with ⟨e1, e2, _⟩ | ⟨id, _, e1, e2, _⟩
    · rw [e1] at hg; simp at hg
    · rw [e1] at hg; exact h.mineT id g hg
theorem ZpM (keep : List Nat) (f : Nat → V) (t : Nat) : (look (keep.map fun t => (t, f t)) t).getD .dead = if t ∈ keep then f t else .dead := by
  induction keep with
  | nil => simp [Zgq]
  | cons x keep ih =>
    simp only [List.map_cons]
    rw [ZB]
    by_cases e : t = x
    · subst e; simp
    · simp [e, ih]
theorem Zdo {l r : List Nat} {x : Nat} (h : x ∈ l ∨ x ∈ r) : x ∈ ZcN l r := by
  induction r generalizing l with
  | nil => simpa [ZcN] using h
  | cons y r ih =>
    simp only [ZcN]
    cases hc : l.contains y with
    | true =>
      refine ih ?_
      rcases h with h | h
      · exact .inl h
      · rcases List.mem_cons.1 h with rfl | h
        · exact .inl (by simpa using hc)
        · exact .inr h
    | false =>
      refine ih ?_
      rcases h with h | h
      · exact .inl (by simp [h])
      · rcases List.mem_cons.1 h with rfl | h
        · exact .inl (by simp)
        · exact .inr h
theorem ZpN {ids : List Nat} {id : Nat} (h : id ∈ ids) : ∃ k, Zbr ids id = some k := by
  unfold Zbr
  cases hq : ids.idxOf? id with
  | some k => exact ⟨k, rfl⟩
  | none => rw [List.idxOf?_eq_none_iff] at hq; exact absurd h hq
theorem LentL.ren {M : Mem} {ids : List Nat} {ps : List (V × Value)} {is : List Nat} (h : LentL tab M ps is) (hin : ∀ i ∈ is, i ∈ ids) : LentL tab (M.ren ids) ps (is.map fun id => (Zbr ids id).getD 0) := by
  induction h with
  | nil => exact .nil
  | @cons p id ps is h1 _ ih =>
    simp only [List.map_cons]
    refine .cons ?_ (ih fun i hi => hin i (by simp [hi]))
    obtain ⟨k, hk⟩ := ZpN (hin id (by simp))
    rw [hk, Option.getD_some]
    have hρ : (M.ren ids).ρ k = M.ρ id := by simp [Mem.ren, ZkL hk]
    unfold Zgu at h1 ⊢
    rw [hρ]; exact h1
theorem Zmg (keep : List Nat) (s : St) : (Zhw keep s).Nodup ∧ ∀ i ∈ s.lent, i ∈ Zhw keep s := by
  unfold Zhw
  dsimp only
  exact ⟨ZcY (ZcY (ZcY (ZcY List.nodup_nil))), fun i hi => Zdo (.inl (Zdo (.inl (Zdo (.inl (Zdo (.inr hi)))))))⟩
theorem Zh8 {E : Entry} {N : Nat} {ps : List (V × Value)} {M : Mem} {s : St} {a : Act} (h : Rel tab E N ps M s a) (keep : List Nat) {ids : List Nat} (hn : ids.Nodup) (hin : ∀ i ∈ s.lent, i ∈ ids) : ∃ M', M'.w = M.w ∧ Rel tab E N ps M' (ZiX keep s ids) a := by
  have hhp : M.hp = look s.hp := h.rel.hp
  refine ⟨M.ren ids, rfl, ⟨⟨ren_mem h.rel.mem hn, .refl _ _, ?_, fun t => ?_⟩, h.lent.ren hin, fun id hid => ?_, h.size, h.defers⟩⟩
  · simp only [Mem.ren, hhp]; rfl
  · have : (St.F (ZiX keep s ids)).sl t = if t ∈ keep then renV ids (s.slot t) else .dead :=
      ZpM keep (fun t => renV ids (s.slot t)) t
    rw [this]
    split
    · exact renV_rs (h.rel.slots t)
    · exact .tree (.dead _)
  · show look (ZeO 0 _) id = none
    rw [Zf5]
    have hid' : ids.length ≤ id := hid
    simp [hid']
theorem Zg8 {E : Entry} {N : Nat} {ps : List (V × Value)} {M : Mem} {s : St} {a : Act} (h : Rel tab E N ps M s a) (keep : List Nat) : ∃ M', M'.w = M.w ∧ Rel tab E N ps M' (canon keep s) a := by
  obtain ⟨hn, hin⟩ := Zmg keep s
  exact Zh8 h keep hn hin
end
end Go.Eng
namespace Go.Eng
section
variable {P : Program}
theorem LentL.mono {tab : Tab} {M M' : Mem} {ps : List (V × Value)} {is : List Nat} (h : LentL tab M ps is) (hρ : ∀ id rb, M.ρ id = some rb → M'.ρ id = some rb) : LentL tab M' ps is := by
  induction h with
  | nil => exact .nil
  | @cons p id ps is h1 _ ih =>
    refine .cons ?_ ih
    unfold Zgu at h1 ⊢
    split at h1
    · obtain ⟨g, q1, q2⟩ := h1; exact ⟨g, hρ _ _ q1, q2⟩
    · obtain ⟨ty, q1, q2⟩ := h1; exact ⟨ty, q1, hρ _ _ q2⟩
    · obtain ⟨ty, q1, q2⟩ := h1; exact ⟨ty, q1, hρ _ _ q2⟩
    · exact h1.elim
theorem Zi2 {tab : Tab} {E : Entry} {M : Mem} (hM : MemOk tab E M) {id : Nat} {b b' : Blk} {n' : List Nat} (hb : M.hp id = some (some b)) (hn : n'.Sublist (M.nest id))
    (h : BlkIs tab M.w (okS E M) M.ρ b' (M.ρ id) (M.top id) n') :
    MemOk tab E { M with hp := fun i => if i = id then some (some b') else M.hp i, nest := fun i => if i = id then n' else M.nest i } ∧
    MemLe E M { M with hp := fun i => if i = id then some (some b') else M.hp i, nest := fun i => if i = id then n' else M.nest i } := by
  have hnd : (M.top id ++ n').Nodup := ((List.Sublist.refl _).append hn).nodup (hM.nodup id)
  refine hM.move (fun i => i = id) (fun i hi => ?_) (fun _ _ h => h) (fun _ _ => rfl) (fun _ _ _ _ => rfl) ⟨rfl, rfl, rfl, Nat.le_refl _, fun _ _ _ => rfl⟩ (fun _ _ _ => rfl) (fun i hi g hg => ?_) (fun i hi g hg => ?_) (fun i hi => ?_)
    (fun i i' hi hi' hne => absurd (hi.trans hi'.symm) hne) (fun i hi g hg => ?_) (fun i hi => ?_) (fun hle i hi bb hbb => ?_)
  · simp [hi]
  · subst hi; exact .inl ⟨_, rfl, hg⟩
  · subst hi; simp only [if_true] at hg; exact .inl ⟨_, rfl, List.mem_append_right _ (hn.mem hg)⟩
  · subst hi; simpa using hnd
  · subst hi
    simp only [if_true] at hg
    exact (hM.mine i g ((List.mem_append.1 hg).elim (List.mem_append_left _) fun h => List.mem_append_right _ (hn.mem h))).2
  · subst hi; simp
  · subst hi
    simp only [if_true, Option.some.injEq] at hbb ⊢
    subst hbb
    exact h.keep (fun _ _ h => h) hle.ok hle.same fun _ _ => rfl
theorem Zc7 {tab : Tab} {E : Entry} {N : Nat} {ps : List (V × Value)} {M : Mem} {s : St} {a : Act} (h : Rel tab E N ps M s a) (i : Nat) : M.hp i = look s.hp i := by
  rw [h.rel.hp]; rfl
theorem Ziy {tab : Tab} {E : Entry} {N : Nat} {ps : List (V × Value)} {M : Mem} {s : St} {a : Act} (h : Rel tab E N ps M s a) (id : Nat) : ∃ M', M'.w = M.w ∧ Rel tab E N ps M' (Zhi s id) a := by
  unfold Zhi
  split
  · rename_i T own els hl
    have hb : M.hp id = some (some (.row T own els)) := (Zc7 h id).trans hl
    obtain ⟨ty, v, xs, k1, k2, k3, k4, k5, k6, k7⟩ := h.rel.mem.row hb
    obtain ⟨m1, m2⟩ := Zi2 (b' := .row T false els) (n' := []) h.rel.mem hb (List.nil_sublist _) ⟨ty, v, k1, k2, ⟨ty, xs, k1, k3, k4, .inr ⟨rfl, rfl, k7⟩⟩, k5⟩
    refine ⟨{ M with hp := fun i => if i = id then some (some (.row T false els)) else M.hp i, nest := fun i => if i = id then [] else M.nest i }, rfl, ⟨⟨m1, .refl _ _, ?_, fun u => m2.rs (h.rel.slots u)⟩, h.lent.mono m2.ρ, fun i hi => ?_, h.size, h.defers⟩⟩
    · funext i
      show (if i = id then some (some (Blk.row T false els)) else M.hp i) = look ((id, some (Blk.row T false els)) :: s.hp) i
      rw [ZB, Zc7 h]
    · show look ((id, some (Blk.row T false els)) :: s.hp) i = none
      rw [ZB, if_neg]
      · exact h.fresh i hi
      · intro e
        have e : i = id := e
        have := h.fresh i hi
        rw [e] at this
        have this : look s.hp id = none := this
        rw [hl] at this; cases this
  · exact ⟨M, rfl, h⟩
theorem Zgy {tab : Tab} {E : Entry} {N : Nat} {ps : List (V × Value)} {M : Mem} {s : St} {a : Act} (h : Rel tab E N ps M s a) (own : Bool) {T : TypeId} {ty : Ty} (hty : tab T = some ty) (a0 : Option Addr) :
    ∃ M', M'.w = M.w ∧ MemOk tab E M' ∧ MemLe E M M' ∧ M'.hp = look ((s.nid, some (Blk.row T own [])) :: s.hp) ∧ M'.Rs tab E (.sl s.nid T 0 none) (.slice a0 0 0) := by
  have hn : M.hp s.nid = none := by rw [h.rel.hp]; exact h.fresh _ (Nat.le_refl _)
  obtain ⟨f1, f2, f3⟩ := h.rel.mem.fresh _ hn
  have main := put_ok h.rel.mem M.w [] s.nid (.row T ty.kinds.length 0 (.slice a0 0 0)) (.row T own []) [] [] (.inl f1) rfl rfl rfl (Nat.le_refl _) (fun _ _ _ => rfl) (by simp) (by simp) (by simp) (by simp) fun _ =>
    ⟨ty, .slice a0 0 0, hty, rfl, ⟨ty, [], hty, ⟨by simp, .inl ⟨a0, rfl, rfl⟩⟩, by simp, by
      cases own
      · exact .inr ⟨rfl, rfl, by simp⟩
      · exact .inl ⟨rfl, fun _ _ => [], by simp [Zz], by simp⟩⟩, by cases a0 <;> rfl⟩
  refine ⟨M.put M.w [] s.nid (.row T ty.kinds.length 0 (.slice a0 0 0)) (.row T own []) [] [], rfl, main.1, main.2, ?_, ?_⟩
  · funext i
    rw [ZB]
    simp only [Mem.put, List.not_mem_nil, if_false]
    split
    · rfl
    · rw [h.rel.hp]; rfl
  · exact .sl s.nid T 0 none ty.kinds.length 0 a0 a0 0 0 (by simp [Mem.put]) (by omega) (by simp) (by omega) (by omega) (fun _ => rfl)
theorem ZlN {α : Type} {l : List α} {n i : Nat} {d : α} (h : i < n) : (l.take n).getD i d = l.getD i d := by
  simp [List.getD, h]
theorem ZnW {tab : Tab} {E : Entry} {N : Nat} {ps : List (V × Value)} {M : Mem} {s : St} {a : Act} (h : Rel tab E N ps M s a) {id T n : Nat} {T' : TypeId} {o own : Bool} {els : List V} (hl : look s.hp id = some (some (.row T' o els))) {v : Value} (hx : M.Rs tab E (.sl id T 0 (some n)) v) :
    ∃ M', M'.w = M.w ∧ MemOk tab E M' ∧ MemLe E M M' ∧ M'.hp = look ((s.nid, some (Blk.row T' (o && own) (els.take n))) :: (id, none) :: s.hp) ∧ M'.Rs tab E (.sl s.nid T' 0 none) v := by
  have hM := h.rel.mem
  have hb : M.hp id = some (some (.row T' o els)) := (Zc7 h id).trans hl
  have hn : M.hp s.nid = none := by rw [h.rel.hp]; exact h.fresh _ (Nat.le_refl _)
  have hne : id ≠ s.nid := fun e => by rw [e, hn] at hb; cases hb
  obtain ⟨f1, f2, f3⟩ := hM.fresh _ hn
  obtain ⟨ty, a1, a', cap, m, q1, q2, q3, q4, q5, q6, q7, rfl, q8, q9⟩ := hM.sl hx hb
  obtain rfl := q7 rfl
  simp only [Option.getD_some] at q4
  subst q4
  obtain ⟨ty', rv, xs, k1, k2, k3, k4, k5, k6, k7⟩ := hM.row hb
  obtain rfl : ty = ty' := Option.some.inj (q1.symm.trans k1)
  have hrv := k2.symm.trans q2
  simp only [Option.some.injEq, RB.row.injEq, true_and] at hrv
  subst hrv
  have hm : m ≤ els.length := by omega
  have hlen : (els.take m).length = m := by simp; omega
  have hmul : m * ty.kinds.length ≤ els.length * ty.kinds.length := Nat.mul_le_mul_right _ hm
  have htop : Zp (.slice a' m (cap - 0)) = Zp (.slice a' els.length cap) := by
    rw [Nat.sub_zero]; cases a' <;> cases cap <;> rfl
  have hrow : RowIs M.w T' ty.kinds.length m (.slice a' m (cap - 0)) (xs.take (m * ty.kinds.length)) := by
    rw [Nat.sub_zero]
    refine ⟨by rw [List.length_take, k3.1]; omega, ?_⟩
    rcases k3.2 with ⟨b, e, h0⟩ | ⟨g, cap', cur, e, hc, hg, hN, hcm, hcs, htk⟩
    · simp only [Value.slice.injEq] at e
      obtain ⟨rfl, e1, rfl⟩ := e
      obtain rfl : m = 0 := by omega
      exact .inl ⟨_, rfl, rfl⟩
    · cases e
      refine .inr ⟨g, cap, cur, rfl, hc, hg, by omega, hcm, hcs, ?_⟩
      rw [← htk, List.take_take, Nat.min_eq_left hmul]
  have hel : ∀ i, i < m → (els.take m).getD i .dead = els.getD i .dead := fun i hi => ZlN hi
  have hxs : ∀ i j, i < m → j < ty.kinds.length → (xs.take (m * ty.kinds.length)).getD (i * ty.kinds.length + j) undef = xs.getD (i * ty.kinds.length + j) undef := fun i j hi hj => ZlN (ZbH hi hj)
  have key : ∃ n' : List Nat, n'.Sublist (M.nest id) ∧ ∀ ok' : Nat → Prop, (∀ g, okS E M g → ok' g) → RowT tab M.w ok' T' (o && own) (els.take m) (.slice a' m (cap - 0)) n' := by
    have hsh : ∀ i, i < (els.take m).length → ZbQ ty ((els.take m).getD i .dead) := fun i hi => by
      rw [hlen] at hi; rw [hel i hi]; exact k4 i (by omega)
    have hpart : ∃ n' : List Nat, n'.Sublist (M.nest id) ∧ ∀ ok' : Nat → Prop, (∀ g, okS E M g → ok' g) → RowT tab M.w ok' T' false (els.take m) (.slice a' m (cap - 0)) n' :=
      ⟨[], List.nil_sublist _, fun ok' hok => ⟨ty, _, k1, by rw [hlen]; exact hrow, hsh, .inr ⟨rfl, rfl, fun i j hi hj => by
        rw [hlen] at hi; rw [hel i hi, hxs i j hi hj]; exact (k7 i j (by omega) hj).keep hok fun _ _ => rfl⟩⟩⟩
    cases hoo : (o && own) with
    | false => exact hpart
    | true =>
      obtain ⟨ty2, xs2, j1, j2, j3, j4⟩ := k6
      obtain rfl : ty = ty2 := Option.some.inj (k1.symm.trans j1)
      have hxx : xs2 = xs := by
        rcases k3.2 with ⟨b, e, h0⟩ | ⟨g, cap', cur, e, hc, hg, hN, hcm, hcs, htk⟩
        · have e1 := k3.1; have e2 := j2.1
          rw [h0, Nat.zero_mul] at e1 e2
          rw [List.eq_nil_of_length_eq_zero e1, List.eq_nil_of_length_eq_zero e2]
        · rcases j2.2 with ⟨b, e', h0⟩ | ⟨g', cap'', cur', e', hc', hg', hN', hcm', hcs', htk'⟩
          · simp only [Value.slice.injEq] at e e'
            have h1 := e.2.2; have h2 := e'.2.2; omega
          · rw [e'] at e; cases e; obtain ⟨fr, hg, -⟩ := hg; obtain ⟨fr', hg', -⟩ := hg'; rw [hg] at hg'; cases hg'; rw [← htk, ← htk']
      subst hxx
      rcases j4 with ⟨ho, F, hF, he⟩ | ⟨ho, -, -⟩
      · refine ⟨Zz m ty.kinds.length F, ?_, fun ok' hok => ⟨ty, _, k1, by rw [hlen]; exact hrow, hsh, .inl ⟨rfl, F, by rw [hlen], fun i j hi hj => ?_⟩⟩⟩
        · rw [hF]
          unfold Zz
          obtain ⟨d, hd⟩ : ∃ d, els.length = m + d := ⟨els.length - m, by omega⟩
          rw [hd, List.range_add, List.flatMap_append]
          exact List.sublist_append_left _ _
        · rw [hlen] at hi; rw [hel i hi, hxs i j hi hj]; exact he i j (by omega) hj
      · simp [ho] at hoo
  obtain ⟨n', hn', hrt⟩ := key
  have hnd : (Zp (.slice a' m (cap - 0)) ++ n').Nodup := by
    rw [htop, ← k5]
    exact ((List.Sublist.refl _).append hn').nodup (hM.nodup id)
  have main := put_ok hM M.w [id] s.nid (.row T' ty.kinds.length m (.slice a' m (cap - 0))) (.row T' (o && own) (els.take m)) (Zp (.slice a' m (cap - 0))) n' (.inl f1) rfl rfl rfl (Nat.le_refl _) (fun _ _ _ => rfl)
    (fun g hg => .inl ⟨id, .inr (by simp), by rw [k5, ← htop]; exact hg⟩) (fun g hg => .inl ⟨id, .inr (by simp), List.mem_append_right _ (hn'.mem hg)⟩) hnd
    (fun g hg => (hM.mine id g (by
      rcases List.mem_append.1 hg with hg | hg
      · rw [k5, ← htop]; exact List.mem_append_left _ hg
      · exact List.mem_append_right _ (hn'.mem hg))).2)
    fun hle => ⟨ty, _, k1, by rw [hlen], hrt _ hle.ok, rfl⟩
  refine ⟨M.put M.w [id] s.nid (.row T' ty.kinds.length m (.slice a' m (cap - 0))) (.row T' (o && own) (els.take m)) (Zp (.slice a' m (cap - 0))) n', rfl, main.1, main.2, ?_, ?_⟩
  · funext i
    rw [ZB, ZB]
    simp only [Mem.put, List.mem_singleton]
    split
    · rfl
    · split
      · rfl
      · exact Zc7 h i
  · have := Rs.sl (tab := tab) (w := M.w) (ok := okS E (M.put M.w [id] s.nid (.row T' ty.kinds.length m (.slice a' m (cap - 0))) (.row T' (o && own) (els.take m)) (Zp (.slice a' m (cap - 0))) n')) (ρ := (M.put M.w [id] s.nid (.row T' ty.kinds.length m (.slice a' m (cap - 0))) (.row T' (o && own) (els.take m)) (Zp (.slice a' m (cap - 0))) n').ρ)
      s.nid T' 0 none ty.kinds.length m a' a' (cap - 0) m (by simp [Mem.put]) (by omega) (by simp) (by omega) (fun _ => by cases a' <;> simp [Addr.add]) (fun _ => rfl)
    rw [Nat.sub_zero] at this ⊢
    exact this
theorem ZeX {α : Type} {cs : List α} {j k : Nat} {x d : α} (hk : k < cs.length) : (cs.set j x).getD k d = if j = k then x else cs.getD k d := by
  simp only [List.getD, List.getElem?_set]
  by_cases e : j = k
  · subst e; simp [hk]
  · simp [e]
theorem nil_at {tab : Tab} {E : Entry} {M : Mem} {cs : List V} {j : Nat} {T : TypeId} (h : cs.getD j .dead = .nil T) : j < cs.length := by
  rcases Nat.lt_or_ge j cs.length with h1 | h1
  · exact h1
  · simp [List.getD, List.getElem?_eq_none h1] at h
theorem sl_at {tab : Tab} {E : Entry} {M : Mem} {cs : List V} {j : Nat} {id T off : Nat} {len : Option Nat} (h : cs.getD j .dead = .sl id T off len) : j < cs.length := by
  rcases Nat.lt_or_ge j cs.length with h1 | h1
  · exact h1
  · simp [List.getD, List.getElem?_eq_none h1] at h
theorem ZjB {tab : Tab} (hT : Zx P tab) {E : Entry} {N : Nat} {ps : List (V × Value)} {M : Mem} {s : St} {a : Act} (h : Rel tab E N ps M s a) (id : Nat) : ∃ M', M'.w = M.w ∧ Rel tab E N ps M' (shutS tab s id) a := by
  have hsame : ∃ M', M'.w = M.w ∧ Rel tab E N ps M' s a := ⟨M, rfl, h⟩
  unfold shutS
  split
  · rename_i T els idx off j hl
    split
    · rename_i ty ht
      split
      · rename_i T' l hlj
        cases hb : Nat.beq j id with
        | true => exact hsame
        | false =>
          have hne : j ≠ id := fun e => by rw [e, Nat.beq_refl] at hb; cases hb
          obtain ⟨M', e1, e2, m1, m2, m3⟩ := ZmN hT h.rel.mem ht ((Zc7 h id).trans hl) ((Zc7 h j).trans hlj) hne
          refine ⟨M', e1, ⟨m1, .refl _ _, ?_, fun u => m2.rs (h.rel.slots u)⟩, h.lent.mono m2.ρ, fun i hi => ?_, h.size, h.defers⟩
          · funext i
            show M'.hp i = look ((id, some (Blk.drow T (Zef ty.kinds ty.agg els idx off (.inl T' l)))) :: (j, none) :: s.hp) i
            rw [m3, ZfV, ZB, ZB, Zc7 h i]
          · have hi : s.nid ≤ i := hi
            have hnone : look s.hp i = none := h.fresh i hi
            show look ((id, some (Blk.drow T (Zef ty.kinds ty.agg els idx off (.inl T' l)))) :: (j, none) :: s.hp) i = none
            rw [ZB, if_neg (fun e => by have e : i = id := e; rw [e, hl] at hnone; cases hnone), ZB, if_neg (fun e => by have e : i = j := e; rw [e, hlj] at hnone; cases hnone)]
            exact hnone
      · exact hsame
    · exact hsame
  · exact hsame
theorem Zh9 {tab : Tab} (hT : Zx P tab) {E : Entry} {N : Nat} {ps : List (V × Value)} {a : Act} : ∀ (ids : List Nat) {M : Mem} {s : St}, Rel tab E N ps M s a → ∃ M', M'.w = M.w ∧ Rel tab E N ps M' (Zeh tab s ids) a
  | [], M, s, h => ⟨M, rfl, h⟩
  | id :: ids, M, s, h => by
    obtain ⟨M1, h1, h2⟩ := ZjB hT h id
    obtain ⟨M2, h3, h4⟩ := Zh9 hT ids h2
    exact ⟨M2, h3.trans h1, h4⟩
theorem Zon {tab : Tab} {E : Entry} {M : Mem} (hM : MemOk tab E M) (id : Nat) :
    MemOk tab E { M with top := fun i => if i = id then [] else M.top i, nest := fun i => if i = id then [] else M.nest i, hp := fun i => if i = id then some none else M.hp i } ∧
    MemLe E M { M with top := fun i => if i = id then [] else M.top i, nest := fun i => if i = id then [] else M.nest i, hp := fun i => if i = id then some none else M.hp i } := by
  exact hM.move (M' := { M with top := fun i => if i = id then [] else M.top i, nest := fun i => if i = id then [] else M.nest i, hp := fun i => if i = id then some none else M.hp i })
    (fun i => i = id) (fun i hi => by simp [hi]) (fun _ _ h => h) (fun g' hg' => rfl) (fun i hi g' hg' => rfl)
    ⟨rfl, rfl, rfl, Nat.le_refl _, fun _ _ _ => rfl⟩
    (fun g' hg' hF => rfl)
    (fun i hi g' hg' => by subst hi; simp at hg') (fun i hi g' hg' => by subst hi; simp at hg') (fun i hi => by subst hi; simp) (fun i i' hi hi' hne => absurd (hi.trans hi'.symm) hne) (fun i hi g' hg' => by subst hi; simp at hg')
    (fun i hi => by subst hi; simp) (fun hle i hi b hbb => by subst hi; simp at hbb)
theorem Ziz {tab : Tab} {E : Entry} {N : Nat} {ps : List (V × Value)} {M : Mem} {s : St} {a : Act} (h : Rel tab E N ps M s a) {t id2 : Nat} {T' : TypeId} {o : Bool} {els : List V} (hl : look s.hp id2 = some (some (.row T' o els))) (v : V)
    (hv : ∀ M1 : Mem, M1.w = M.w → MemLe E M M1 → (∀ (T off : Nat) (len : Option Nat) (u : Value), M.Rs tab E (.sl id2 T off len) u → M1.Rs tab E (.inl T (cut els off len)) u) → M1.Rs tab E v (a.eval (.tmp t))) :
    ∃ M', M'.w = M.w ∧ Rel tab E N ps M' { sl := (t, v) :: s.sl, hp := (id2, none) :: s.hp, nid := s.nid, lent := s.lent } a := by
  have hM := h.rel.mem
  have hb2 : M.hp id2 = some (some (.row T' o els)) := (Zc7 h id2).trans hl
  obtain ⟨m1, m2⟩ := Zon hM id2
  generalize hM1 : ({ M with top := fun i => if i = id2 then [] else M.top i, nest := fun i => if i = id2 then [] else M.nest i, hp := fun i => if i = id2 then some none else M.hp i } : Mem) = M1 at m1 m2
  have e1 : M1.w = M.w := by rw [← hM1]
  have ehp : M1.hp = fun i => if i = id2 then some none else M.hp i := by rw [← hM1]
  have etop : M1.top = fun i => if i = id2 then [] else M.top i := by rw [← hM1]
  refine ⟨M1, e1, ⟨m1, .refl _ _, ?_, fun u => ?_⟩, h.lent.mono m2.ρ, fun i hi => ?_, h.size, h.defers⟩
  · funext i
    show M1.hp i = look ((id2, none) :: s.hp) i
    rw [ZB, ehp]
    show (if i = id2 then some none else M.hp i) = _
    rw [Zc7 h i]
  · have hsl : (St.F { sl := (t, v) :: s.sl, hp := (id2, none) :: s.hp, nid := s.nid, lent := s.lent }).sl u = if u = t then v else s.slot u := ZeW s t v u
    rw [hsl]
    split
    · rename_i e; subst e
      refine hv M1 e1 m2 fun T off len u hx => ?_
      refine .tree ?_
      rw [e1]
      refine Zgj hM hx hb2 m2.ok fun g' hg' => ?_
      have hmi := hM.mine id2 g' (List.mem_append_left _ hg')
      refine ⟨.inr hmi.1, by rw [e1]; exact hmi.2, fun i hi => ?_⟩
      rw [etop] at hi
      simp only at hi
      split at hi
      · simp at hi
      · rename_i hni; exact hM.apart i id2 hni g' (List.mem_append_left _ hi) (List.mem_append_left _ hg')
    · exact m2.rs (h.rel.slots u)
  · show look ((id2, none) :: s.hp) i = none
    have h0 : look s.hp i = none := h.fresh i hi
    rw [ZB, if_neg]
    · exact h0
    · intro e
      have e : i = id2 := e
      rw [e, hl] at h0; cases h0
theorem Zmh {tab : Tab} {E : Entry} {N : Nat} {ps : List (V × Value)} {M : Mem} {s : St} {a : Act} (h : Rel tab E N ps M s a) (t j : Nat) : ∃ M', M'.w = M.w ∧ Rel tab E N ps M' (Zln s t j) a := by
  have hsame : ∃ M', M'.w = M.w ∧ Rel tab E N ps M' s a := ⟨M, rfl, h⟩
  unfold Zln
  split
  · rename_i id off0 hbp
    split
    · rename_i TT cs hbox
      split
      · rename_i id2 T off len hT
        split
        · rename_i T' o els hl
          have hM := h.rel.mem
          have hb : M.hp id = some (some (.box TT cs)) := (Zc7 h id).trans hbox
          have hb2 : M.hp id2 = some (some (.row T' o els)) := (Zc7 h id2).trans hl
          have hne : id ≠ id2 := fun e => by rw [e, hb2] at hb; cases hb
          obtain ⟨g, c, T0, q1, q2, q3, q4, q5, q6⟩ := hM.box hb
          have hjl := sl_at (tab := tab) (E := E) (M := M) hT
          have hcj := q4 j hjl
          rw [hT] at hcj
          obtain ⟨m1, m2⟩ := Zon hM id2
          generalize hM1 : ({ M with top := fun i => if i = id2 then [] else M.top i, nest := fun i => if i = id2 then [] else M.nest i, hp := fun i => if i = id2 then some none else M.hp i } : Mem) = M1 at m1 m2
          have e1 : M1.w = M.w := by rw [← hM1]
          have eρ : M1.ρ = M.ρ := by rw [← hM1]
          have ehp : M1.hp = fun i => if i = id2 then some none else M.hp i := by rw [← hM1]
          have etop : M1.top = fun i => if i = id2 then [] else M.top i := by rw [← hM1]
          have hx : M1.Rs tab E (.inl T (cut els off len)) (c.getD j undef) := by
            refine .tree ?_
            rw [e1]
            refine Zgj hM hcj hb2 m2.ok fun g' hg' => ?_
            have hmi := hM.mine id2 g' (List.mem_append_left _ hg')
            refine ⟨.inr hmi.1, by rw [e1]; exact hmi.2, fun i hi => ?_⟩
            rw [etop] at hi
            simp only at hi
            split at hi
            · simp at hi
            · rename_i hni; exact hM.apart i id2 hni g' (List.mem_append_left _ hi) (List.mem_append_left _ hg')
          have hb' : M1.hp id = some (some (.box TT cs)) := by rw [ehp]; simp only [if_neg hne]; exact hb
          obtain ⟨g', c', T0', r1, r2, r3, r4, r5, r6⟩ := m1.box hb'
          have hr1 := m2.ρ _ _ q1
          rw [r1] at hr1
          simp only [Option.some.injEq, RB.box.injEq] at hr1
          subst hr1
          rw [e1, q2] at r2
          cases r2
          obtain ⟨n1, n2⟩ := Zi2 (b' := .box TT (cs.set j (.inl T (cut els off len)))) (n' := []) m1 hb' (List.nil_sublist _) (by
            refine ⟨g', c, T0, r1, by rw [e1]; exact q2, by simpa using r3, fun k hk => ?_, r5, rfl⟩
            have hk : k < cs.length := by simpa using hk
            rw [ZeX hk]
            split
            · rename_i e; subst e; exact hx
            · exact r4 k hk)
          refine ⟨{ M1 with hp := fun i => if i = id then some (some (.box TT (cs.set j (.inl T (cut els off len))))) else M1.hp i, nest := fun i => if i = id then [] else M1.nest i }, e1, ⟨⟨n1, .refl _ _, ?_, fun u => n2.rs (m2.rs (h.rel.slots u))⟩, (h.lent.mono m2.ρ).mono n2.ρ, fun i hi => ?_, h.size, h.defers⟩⟩
          · funext i
            show (if i = id then some (some (Blk.box TT (cs.set j (.inl T (cut els off len))))) else M1.hp i) = look ((id, some (Blk.box TT (cs.set j (.inl T (cut els off len))))) :: (id2, none) :: s.hp) i
            rw [ZB, ZB, ehp, h.rel.hp]; rfl
          · show look ((id, some (Blk.box TT (cs.set j (.inl T (cut els off len))))) :: (id2, none) :: s.hp) i = none
            have h0 : look s.hp i = none := h.fresh i hi
            rw [ZB, if_neg, ZB, if_neg]
            · exact h0
            · intro e
              have e : i = id2 := e
              rw [e, hl] at h0; cases h0
            · intro e
              have e : i = id := e
              rw [e, hbox] at h0; cases h0
        · exact hsame
      · exact hsame
    · exact hsame
  · rename_i cs hag
    split
    · rename_i id2 T off len hT
      split
      · rename_i T' o els hl
        refine Ziz h hl _ fun M1 e1 m2 hx => ?_
        have hs := h.rel.slots t
        rw [show s.F.sl t = V.agg cs from hag] at hs
        obtain ⟨vals, e, hlen, hj⟩ := hs.agg_inv
        rw [e]
        refine .agg _ vals (by rw [List.length_set]; exact hlen) fun k hk => ?_
        have hk : k < cs.length := by simpa using hk
        rw [ZeX hk]
        split
        · rename_i e; subst e
          have := hj j hk
          rw [hT] at this
          exact hx _ _ _ _ this
        · exact m2.rs (hj k hk)
      · exact hsame
    · exact hsame
  · rename_i id2 T off len hsl
    split
    · rename_i T' o els hl
      refine Ziz h hl _ fun M1 e1 m2 hx => ?_
      have hs := h.rel.slots t
      rw [show s.F.sl t = V.sl id2 T off len from hsl] at hs
      exact hx _ _ _ _ hs
    · exact hsame
  · exact hsame
theorem Zg9 {tab : Tab} (hT0 : Zx P tab) {E : Entry} {N : Nat} {ps : List (V × Value)} {M : Mem} {s : St} {a : Act} (h : Rel tab E N ps M s a) (x : Fix) : ∃ M', M'.w = M.w ∧ Rel tab E N ps M' (Zkn tab s x) a := by
  have hsame : ∃ M', M'.w = M.w ∧ Rel tab E N ps M' s a := ⟨M, rfl, h⟩
  have hsoft : ∀ id, ∃ M', M'.w = M.w ∧ Rel tab E N ps M' (bif x.own then s else Zhi s id) a := fun id => by
    cases x.own
    · exact Ziy h id
    · exact hsame
  have hfresh : ∀ {id : Nat} {T : TypeId}, s.nid + 1 ≤ id → look ((s.nid, some (Blk.row T x.own [])) :: s.hp) id = none := fun {id T} hid => by
    rw [ZB, if_neg (by simp; omega)]
    exact h.fresh id (by omega)
  have hcut : ∀ (id T n : Nat) (v : Value) (f : V → St → St), M.Rs tab E (.sl id T 0 (some n)) v →
      (∀ (T' : TypeId) (o : Bool) (els : List V) (M' : Mem), look s.hp id = some (some (.row T' o els)) → M'.w = M.w → MemOk tab E M' → MemLe E M M' → M'.hp = look ((s.nid, some (Blk.row T' (o && x.own) (els.take n))) :: (id, none) :: s.hp) → M'.Rs tab E (.sl s.nid T' 0 none) v →
        ∃ M'', M''.w = M.w ∧ Rel tab E N ps M'' (f (.sl s.nid T' 0 none) { sl := s.sl, hp := (s.nid, some (.row T' (o && x.own) (els.take n))) :: (id, none) :: s.hp, nid := s.nid + 1, lent := s.lent }) a) →
      ∃ M', M'.w = M.w ∧ Rel tab E N ps M' (ZiW s id n x.own f) a := fun id T n v f hx hf => by
    unfold ZiW
    split
    · rename_i T' o els hl
      obtain ⟨M', e1, m1, m2, m3, m4⟩ := ZnW (own := x.own) h hl hx
      exact hf T' o els M' hl e1 m1 m2 m3 m4
    · exact hsame
  have hfresh2 : ∀ {i id : Nat} {b : Option Blk}, (look s.hp id).isSome = true → s.nid + 1 ≤ i → look ((s.nid, b) :: (id, none) :: s.hp) i = none := fun {i id b} hs hi => by
    rw [ZB, if_neg (by simp; omega), ZB, if_neg]
    · exact h.fresh i (by omega)
    · intro e
      have e : i = id := e
      have := h.fresh i (by omega)
      have this : look s.hp i = none := this
      rw [e] at this; rw [this] at hs; cases hs
  have hslot2 : ∀ (v : V) (M' : Mem) (id : Nat) (b : Option Blk), (look s.hp id).isSome = true → M'.w = M.w → MemOk tab E M' → MemLe E M M' → M'.hp = look ((s.nid, b) :: (id, none) :: s.hp) → M'.Rs tab E v (a.eval (.tmp x.slot)) →
      Rel tab E N ps M' { sl := (x.slot, v) :: s.sl, hp := (s.nid, b) :: (id, none) :: s.hp, nid := s.nid + 1, lent := s.lent } a := fun v M' id b hs e1 m1 m2 m3 m4 => by
    refine ⟨⟨m1, .refl _ _, m3, fun u => ?_⟩, h.lent.mono m2.ρ, fun i hi => hfresh2 hs hi, h.size, h.defers⟩
    have : (St.F { sl := (x.slot, v) :: s.sl, hp := (s.nid, b) :: (id, none) :: s.hp, nid := s.nid + 1, lent := s.lent }).sl u = if u = x.slot then v else s.slot u := ZeW s x.slot v u
    rw [this]
    split
    · rename_i e; subst e; exact m4
    · exact m2.rs (h.rel.slots u)
  have hslot : ∀ (T : TypeId) (ty : Ty) (v : V) (M' : Mem), M'.w = M.w → MemOk tab E M' → MemLe E M M' → M'.hp = look ((s.nid, some (Blk.row T x.own [])) :: s.hp) → M'.Rs tab E v (a.eval (.tmp x.slot)) →
      Rel tab E N ps M' { sl := (x.slot, v) :: s.sl, hp := (s.nid, some (Blk.row T x.own [])) :: s.hp, nid := s.nid + 1, lent := s.lent } a := fun T ty v M' e1 m1 m2 m3 m4 => by
    refine ⟨⟨m1, .refl _ _, m3, fun u => ?_⟩, h.lent.mono m2.ρ, fun id hid => hfresh hid, h.size, h.defers⟩
    have : (St.F { sl := (x.slot, v) :: s.sl, hp := (s.nid, some (Blk.row T x.own [])) :: s.hp, nid := s.nid + 1, lent := s.lent }).sl u = if u = x.slot then v else s.slot u := ZeW s x.slot v u
    rw [this]
    split
    · rename_i e; subst e; exact m4
    · exact m2.rs (h.rel.slots u)
  unfold Zkn
  split
  · split
    · rename_i T hT
      split
      · rename_i ty hty
        have hv := h.rel.slots x.slot
        have hT' : s.F.sl x.slot = .nil T := hT
        rw [hT'] at hv
        obtain ⟨a0, hv⟩ := hv.nil
        obtain ⟨M', e1, m1, m2, m3, m4⟩ := Zgy h x.own hty a0
        exact ⟨M', e1, hslot T ty _ M' e1 m1 m2 m3 (by rw [hv]; exact m4)⟩
      · exact hsame
    · rename_i id T n hsl
      have hv := h.rel.slots x.slot
      have hT' : s.F.sl x.slot = .sl id T 0 (some n) := hsl
      rw [hT'] at hv
      exact hcut id T n _ _ hv fun T' o els M' hl e1 m1 m2 m3 m4 => ⟨M', e1, hslot2 _ M' id _ (by rw [hl]; rfl) e1 m1 m2 m3 m4⟩
    · cases hown : x.own
      · exact Ziy h _
      · exact ZjB hT0 h _
    · exact hsame
  · rename_i j hj
    split
    · rename_i cs hcs
      split
      · rename_i T hT
        split
        · rename_i ty hty
          have hv := h.rel.slots x.slot
          have hT' : s.F.sl x.slot = .agg cs := hcs
          rw [hT'] at hv
          obtain ⟨vals, hv, hl, hc⟩ := hv.agg_inv
          have hjl := nil_at (tab := tab) (E := E) (M := M) hT
          have hcj := hc j hjl
          rw [hT] at hcj
          obtain ⟨a0, hv0⟩ := hcj.nil
          obtain ⟨M', e1, m1, m2, m3, m4⟩ := Zgy h x.own hty a0
          refine ⟨M', e1, hslot T ty _ M' e1 m1 m2 m3 ?_⟩
          rw [hv]
          refine .agg _ vals (by simpa using hl) fun k hk => ?_
          have hk : k < cs.length := by simpa using hk
          rw [ZeX hk]
          split
          · rename_i e; subst e; rw [hv0]; exact m4
          · exact m2.rs (hc k hk)
        · exact hsame
      · rename_i id T n hT
        have hv := h.rel.slots x.slot
        have hT' : s.F.sl x.slot = .agg cs := hcs
        rw [hT'] at hv
        obtain ⟨vals, hv, hl, hc⟩ := hv.agg_inv
        have hjl := sl_at (tab := tab) (E := E) (M := M) hT
        have hcj := hc j hjl
        rw [hT] at hcj
        refine hcut id T n _ _ hcj fun T' o els M' hlk e1 m1 m2 m3 m4 => ⟨M', e1, hslot2 _ M' id _ (by rw [hlk]; rfl) e1 m1 m2 m3 ?_⟩
        rw [hv]
        refine .agg _ vals (by simpa using hl) fun k hk => ?_
        have hk : k < cs.length := by simpa using hk
        rw [ZeX hk]
        split
        · rename_i e; subst e; exact m4
        · exact m2.rs (hc k hk)
      · exact hsoft _
      · exact hsame
    · rename_i id off hbp
      split
      · rename_i TT cs hbox
        split
        · rename_i T hT
          split
          · rename_i ty hty
            have hb : M.hp id = some (some (.box TT cs)) := (Zc7 h id).trans hbox
            obtain ⟨g, c, T0, q1, q2, q3, q4, q5, q6⟩ := h.rel.mem.box hb
            have hjl := nil_at (tab := tab) (E := E) (M := M) hT
            have hcj := q4 j hjl
            rw [hT] at hcj
            obtain ⟨a0, hv0⟩ := hcj.nil
            obtain ⟨M', e1, m1, m2, m3, m4⟩ := Zgy h x.own hty a0
            have hne : id ≠ s.nid := by
              intro e
              have := h.fresh s.nid (Nat.le_refl _)
              have this : look s.hp s.nid = none := this
              rw [← e, hbox] at this; cases this
            have hb' : M'.hp id = some (some (.box TT cs)) := by rw [m3, ZB, if_neg hne]; exact hbox
            obtain ⟨g', c', T0', r1, r2, r3, r4, r5, r6⟩ := m1.box hb'
            have hr1 := m2.ρ _ _ q1
            rw [r1] at hr1
            simp only [Option.some.injEq, RB.box.injEq] at hr1
            subst hr1
            rw [e1, q2] at r2
            cases r2
            obtain ⟨n1, n2⟩ := Zi2 (b' := .box TT (cs.set j (.sl s.nid T 0 none))) (n' := []) m1 hb' (List.nil_sublist _) (by
              refine ⟨g', c, T0, r1, by rw [e1]; exact q2, by simpa using r3, fun k hk => ?_, r5, rfl⟩
              have hk : k < cs.length := by simpa using hk
              rw [ZeX hk]
              split
              · rename_i e; subst e; rw [hv0]; exact m4
              · exact r4 k hk)
            refine ⟨{ M' with hp := fun i => if i = id then some (some (.box TT (cs.set j (.sl s.nid T 0 none)))) else M'.hp i, nest := fun i => if i = id then [] else M'.nest i }, e1, ⟨⟨n1, .refl _ _, ?_, fun u => n2.rs (m2.rs (h.rel.slots u))⟩, (h.lent.mono m2.ρ).mono n2.ρ, fun i hi => ?_, h.size, h.defers⟩⟩
            · funext i
              show (if i = id then some (some (Blk.box TT (cs.set j (.sl s.nid T 0 none)))) else M'.hp i) = look ((id, some (Blk.box TT (cs.set j (.sl s.nid T 0 none)))) :: (s.nid, some (Blk.row T x.own [])) :: s.hp) i
              rw [ZB, m3]
            · show look ((id, some (Blk.box TT (cs.set j (.sl s.nid T 0 none)))) :: (s.nid, some (Blk.row T x.own [])) :: s.hp) i = none
              have hi : s.nid + 1 ≤ i := hi
              rw [ZB, if_neg]
              · exact hfresh hi
              · intro e
                have e : i = id := e
                have := h.fresh i (by omega)
                have this : look s.hp i = none := this
                rw [e, hbox] at this; cases this
          · exact hsame
        · rename_i id2 T n hT
          cases hbe : Nat.beq id2 id with
          | true => exact hsame
          | false =>
            have hne2 : id2 ≠ id := fun e => by rw [e, Nat.beq_refl] at hbe; cases hbe
            have hb : M.hp id = some (some (.box TT cs)) := (Zc7 h id).trans hbox
            obtain ⟨g, c, T0, q1, q2, q3, q4, q5, q6⟩ := h.rel.mem.box hb
            have hjl := sl_at (tab := tab) (E := E) (M := M) hT
            have hcj := q4 j hjl
            rw [hT] at hcj
            have hne : id ≠ s.nid := by
              intro e
              have := h.fresh s.nid (Nat.le_refl _)
              have this : look s.hp s.nid = none := this
              rw [← e, hbox] at this; cases this
            rw [cond_false]
            refine hcut id2 T n _ _ hcj fun T' o els M' hlk e1 m1 m2 m3 m4 => ?_
            have hb' : M'.hp id = some (some (.box TT cs)) := by rw [m3, ZB, if_neg hne, ZB, if_neg (Ne.symm hne2)]; exact hbox
            obtain ⟨g', c', T0', r1, r2, r3, r4, r5, r6⟩ := m1.box hb'
            have hr1 := m2.ρ _ _ q1
            rw [r1] at hr1
            simp only [Option.some.injEq, RB.box.injEq] at hr1
            subst hr1
            rw [e1, q2] at r2
            cases r2
            obtain ⟨n1, n2⟩ := Zi2 (b' := .box TT (cs.set j (.sl s.nid T' 0 none))) (n' := []) m1 hb' (List.nil_sublist _) (by
              refine ⟨g', c, T0, r1, by rw [e1]; exact q2, by simpa using r3, fun k hk => ?_, r5, rfl⟩
              have hk : k < cs.length := by simpa using hk
              rw [ZeX hk]
              split
              · rename_i e; subst e; exact m4
              · exact r4 k hk)
            refine ⟨{ M' with hp := fun i => if i = id then some (some (.box TT (cs.set j (.sl s.nid T' 0 none)))) else M'.hp i, nest := fun i => if i = id then [] else M'.nest i }, e1, ⟨⟨n1, .refl _ _, ?_, fun u => n2.rs (m2.rs (h.rel.slots u))⟩, (h.lent.mono m2.ρ).mono n2.ρ, fun i hi => ?_, h.size, h.defers⟩⟩
            · funext i
              show (if i = id then some (some (Blk.box TT (cs.set j (.sl s.nid T' 0 none)))) else M'.hp i) = look ((id, some (Blk.box TT (cs.set j (.sl s.nid T' 0 none)))) :: (s.nid, some (Blk.row T' (o && x.own) (els.take n))) :: (id2, none) :: s.hp) i
              rw [ZB, m3]
            · show look ((id, some (Blk.box TT (cs.set j (.sl s.nid T' 0 none)))) :: (s.nid, some (Blk.row T' (o && x.own) (els.take n))) :: (id2, none) :: s.hp) i = none
              have hi : s.nid + 1 ≤ i := hi
              rw [ZB, if_neg]
              · exact hfresh2 (by rw [hlk]; rfl) hi
              · intro e
                have e : i = id := e
                have := h.fresh i (by omega)
                have this : look s.hp i = none := this
                rw [e, hbox] at this; cases this
        · exact hsoft _
        · exact hsame
      · exact hsame
    · exact hsame
theorem Zo1 {tab : Tab} (hT0 : Zx P tab) {E : Entry} {N : Nat} {ps : List (V × Value)} {M : Mem} {s : St} {a : Act} (h : Rel tab E N ps M s a) (x : Fix) : ∃ M', M'.w = M.w ∧ Rel tab E N ps M' (thaw tab s x) a := by
  unfold thaw
  split
  · exact Zg9 hT0 h x
  · rename_i j _
    cases Nat.ble 1000 j
    · exact Zg9 hT0 h x
    · exact Zmh h _ _
theorem Zez {tab : Tab} (hT0 : Zx P tab) {E : Entry} {N : Nat} {ps : List (V × Value)} {a : Act} : ∀ (ts : List Fix) {M : Mem} {s : St}, Rel tab E N ps M s a → ∃ M', M'.w = M.w ∧ Rel tab E N ps M' (Zfx tab s ts) a
  | [], M, s, h => ⟨M, rfl, h⟩
  | t :: ts, M, s, h => by
    obtain ⟨M1, h1, h2⟩ := Zo1 hT0 h t
    obtain ⟨M2, h3, h4⟩ := Zez hT0 ts h2
    exact ⟨M2, h3.trans h1, h4⟩
theorem ZkM {tab : Tab} (hT0 : Zx P tab) {E : Entry} {N : Nat} {ps : List (V × Value)} {M : Mem} {s : St} {a : Act} (h : Rel tab E N ps M s a) (keep : List Nat) (thaws : List Fix) : ∃ M', M'.w = M.w ∧ Rel tab E N ps M' (head tab keep thaws s) a := by
  obtain ⟨M1, h1, h2⟩ := Zez hT0 thaws h
  obtain ⟨M2, h3, h4⟩ := Zg8 h2 keep
  exact ⟨M2, h3.trans h1, h4⟩
def ZfW : Ex → Exit
  | .normal => .normal
  | .exit id => .exit id
  | .ret => .ret
def ZaW (N : Nat) : Code → Bool
  | .region _ ops draw => ops.toList.all (fun o => match o.dst with | some d => decide (d < N) | none => true) && (!draw || Zhm ops (CheckFast.beforeF ops).toList)
  | .seq a b => ZaW N a && ZaW N b
  | .cond _ a b => ZaW N a && ZaW N b
  | .block _ a => ZaW N a
  | .loop a => ZaW N a
  | _ => true
def ZI (cfg : Cfg) (L : Loops) : Code → Prop
  | .seq a b => ZI cfg L a ∧ ZI cfg L b
  | .cond _ a b => ZI cfg L a ∧ ZI cfg L b
  | .block _ a => ZI cfg L a
  | .loop a => (∀ s o r, L.run (Zbl a) s = some o → o.get = some r → ∃ n, ZM cfg L a n s = some r) ∧ ZI cfg L a
  | _ => True
theorem Out.fold_eq {X : Type} {k : Ex → St → Option X} : ∀ {o : Out} {x : X}, o.fold k = some x → ∃ r, o.get = some r ∧ k r.1 r.2 = some x
  | .leaf e s, x, h => ⟨(e, s), rfl, h⟩
  | .br b t f, x, h => by
    cases b with
    | true => exact Out.fold_eq (o := t) h
    | false => exact Out.fold_eq (o := f) h
  | .tst b o, x, h => by
    cases b with
    | true => exact Out.fold_eq (o := o) h
    | false => cases h
theorem least {p : Nat → Prop} (h : ∃ n, p n) : ∃ n, p n ∧ ∀ m, p m → n ≤ m := by
  obtain ⟨n, hn⟩ := h
  induction n using Nat.strongRecOn with
  | ind n ih =>
    by_cases hm : ∃ m, m < n ∧ p m
    · obtain ⟨m, hlt, hm⟩ := hm
      exact ih m hlt hm
    · exact ⟨n, hn, fun m hpm => by
        rcases Nat.lt_or_ge m n with h | h
        · exact absurd ⟨m, h, hpm⟩ hm
        · exact h⟩
theorem ZlO {c : Code} {Q : Exit → Act → World → Prop} (I : Nat → Act → World → Prop) (h0 : ∀ a w, ¬I 0 a w) (round : ∀ n a w, I (n + 1) a w → c.wp P (Exit.then (I n) Q) a w) {n : Nat} {a : Act} {w : World} (h : I n a w) :
    (Code.loop c).wp P Q a w := by
  have hex : ∀ (a : Act) (w : World), ∃ μ : Nat, (∃ n, I n a w) → I μ a w ∧ ∀ m, I m a w → μ ≤ m := by
    intro a w
    by_cases hh : ∃ n, I n a w
    · obtain ⟨n, h1, h2⟩ := least hh
      exact ⟨n, fun _ => ⟨h1, h2⟩⟩
    · exact ⟨0, fun h => absurd h hh⟩
  let μ : Act → World → Nat := fun a w => Classical.choose (hex a w)
  have hμ : ∀ a w, (∃ n, I n a w) → I (μ a w) a w ∧ ∀ m, I m a w → μ a w ≤ m := fun a w => Classical.choose_spec (hex a w)
  refine wp_loop (fun a w => ∃ n, I n a w) μ ⟨n, h⟩ fun a w hI => ?_
  obtain ⟨h1, h2⟩ := hμ a w hI
  obtain ⟨m, hm⟩ : ∃ m, μ a w = m + 1 := by
    cases hq : μ a w with
    | zero => rw [hq] at h1; exact absurd h1 (h0 a w)
    | succ m => exact ⟨m, rfl⟩
  rw [hm] at h1
  refine wp_mono (round m a w h1) fun e a' w' hq => ?_
  cases e with
  | normal =>
    have hq : I m a' w' := hq
    have := (hμ a' w' ⟨m, hq⟩).2 m hq
    exact ⟨⟨m, hq⟩, by show μ a' w' < μ a w; omega⟩
  | _ => exact hq
theorem ZcZ {cfg : Cfg} (hT : Zx P cfg.tab) (hS : Zbh P cfg.tab cfg.sums) (hmix : P.follows .mixedOrders = true) (L : Loops) (E : Entry) (N : Nat) (ps : List (V × Value)) :
    ∀ (c : Code), ZaW N c = true → ZI cfg L c → ∀ (X : Type) (s : St) (k : Ex → St → Option X) (x : X), Zb2 cfg L c s k = some x →
      ∃ e s', k e s' = some x ∧ ∀ (M : Mem) (a : Act), Rel cfg.tab E N ps M s a → ∀ Q : Exit → Act → World → Prop, (∀ M' a', Rel cfg.tab E N ps M' s' a' → Q (ZfW e) a' M'.w) → c.wp P Q a M.w
  | .skip, _, _, X, s, k, x, h => ⟨.normal, s, h, fun M a hR Q hQ => wp_skip (hQ M a hR)⟩
  | .label l, _, _, X, s, k, x, h => ⟨.normal, s, h, fun M a hR Q hQ => wp_label (hQ M a hR)⟩
  | .exit id, _, _, X, s, k, x, h => ⟨.exit id, s, h, fun M a hR Q hQ => wp_exit (hQ M a hR)⟩
  | .ret, _, _, X, s, k, x, h => ⟨.ret, s, h, fun M a hR Q hQ => wp_ret (hQ M a hR)⟩
  | .region rid ops draw, hc, _, X, s, k, x, h => by
    simp only [ZaW, Bool.and_eq_true, List.all_eq_true] at hc
    obtain ⟨hd, hp⟩ := hc
    have hdst : ∀ (a : Act), a.tmps.size = N → ∀ o ∈ ops.toList, ∀ d, o.dst = some d → d < a.tmps.size := fun a ha o ho d hd' => by
      have := hd o ho
      rw [hd'] at this
      rw [ha]; simpa using this
    cases draw with
    | false =>
      obtain ⟨es, s', he, hF, hn, hlt, hk⟩ := ZfK _ _ _ _ _ h
      refine ⟨.normal, s', hk, fun M0 a hR0 Q hQ => ?_⟩
      obtain ⟨M, ew, hR⟩ := Zez hT (L.frz rid) hR0
      rw [← ew]
      refine Zo0 hT hS he hR.rel hR.fresh (hdst a hR.size) fun M' a' hR' h1 h2 => hQ M' a' ⟨⟨hR'.mem, .refl _ _, by rw [hF]; exact hR'.hp, by rw [hF]; exact hR'.slots⟩, by rw [hlt]; exact hR.lent.mono hR'.le.ρ, ?_, h1.trans hR.size, h2.trans hR.defers⟩
      intro id hid
      have hf := Zis (F := (Zfx cfg.tab s (L.frz rid)).F) hR.fresh es id (by rw [← hn]; exact hid)
      rw [← hF] at hf; exact hf
    | true =>
      obtain ⟨es, s', he, hF, hn, hlt, hk⟩ := ZfK _ _ _ _ _ h
      simp only [List.append_nil, List.reverse_reverse] at hk
      cases hcl : (ZdZ (es.map Ent.recd).reverse || ZcU (CheckFast.beforeF ops).toList 0 (es.map Ent.recd)) with
      | false => rw [hcl] at hk; cases hk
      | true =>
        rw [hcl] at hk
        rw [CheckFast.beforeF_eq] at hcl hp
        refine ⟨.normal, s', hk, fun M0 a hR0 Q hQ => ?_⟩
        obtain ⟨M, ew, hR⟩ := Zez hT (L.frz rid) hR0
        rw [← ew]
        refine ZnV hT hS hmix he hR.rel hR.fresh (hdst a hR.size) (by simpa using hp) (by simpa [ZdZ] using hcl) fun M' a' hR' h1 h2 => hQ M' a' ⟨⟨hR'.mem, .refl _ _, by rw [hF]; exact hR'.hp, by rw [hF]; exact hR'.slots⟩, by rw [hlt]; exact hR.lent.mono hR'.le.ρ, ?_, h1.trans hR.size, h2.trans hR.defers⟩
        intro id hid
        have hf := Zis (F := (Zfx cfg.tab s (L.frz rid)).F) hR.fresh es id (by rw [← hn]; exact hid)
        rw [← hF] at hf; exact hf
  | .seq c1 c2, hc, hl, X, s, k, x, h => by
    simp only [ZaW, Bool.and_eq_true] at hc
    obtain ⟨e1, s1, h1, w1⟩ := ZcZ hT hS hmix L E N ps c1 hc.1 hl.1 X s _ x h
    cases e1 with
    | normal =>
      obtain ⟨e2, s2, h2, w2⟩ := ZcZ hT hS hmix L E N ps c2 hc.2 hl.2 X s1 k x h1
      exact ⟨e2, s2, h2, fun M a hR Q hQ => wp_seq (w1 M a hR _ fun M' a' hR' => w2 M' a' hR' Q hQ)⟩
    | exit id => exact ⟨.exit id, s1, h1, fun M a hR Q hQ => wp_seq (w1 M a hR _ fun M' a' hR' => hQ M' a' hR')⟩
    | ret => exact ⟨.ret, s1, h1, fun M a hR Q hQ => wp_seq (w1 M a hR _ fun M' a' hR' => hQ M' a' hR')⟩
  | .cond c c1 c2, hc, hl, X, s, k, x, h => by
    simp only [ZaW, Bool.and_eq_true] at hc
    have ih1 := ZcZ hT hS hmix L E N ps c1 hc.1 hl.1 X
    have ih2 := ZcZ hT hS hmix L E N ps c2 hc.2 hl.2 X
    have hput : ∀ t b, s.slot t = .bool b → ∀ M a, Rel cfg.tab E N ps M s a → Rel cfg.tab E N ps M (s.put (some t) (.bool b)) a := fun t b hb M a hR => by
      obtain ⟨q1, q2⟩ := ZjQ s t _ hb
      exact ⟨by rw [q1]; exact hR.rel, hR.lent, fun id hid => hR.fresh id hid, hR.size, hR.defers⟩
    have hev : ∀ t b, s.slot t = .bool b → ∀ M a, Rel cfg.tab E N ps M s a → a.eval (.tmp t) = .bool b := fun t b hb M a hR => by
      have := hR.rel.slots t
      have hb' : s.F.sl t = .bool b := hb
      rw [hb'] at this
      exact this.bool
    unfold Zb2 at h
    split at h
    · rename_i t
      cases hs : s.slot t with
      | bool b =>
        rw [hs] at h
        cases b with
        | true =>
          obtain ⟨e, s', h1, w1⟩ := ih1 _ k x h
          exact ⟨e, s', h1, fun M a hR Q hQ => wp_cond_true (hev t true hs M a hR) (w1 M a (hput t true hs M a hR) Q hQ)⟩
        | false =>
          obtain ⟨e, s', h1, w1⟩ := ih2 _ k x h
          exact ⟨e, s', h1, fun M a hR Q hQ => wp_cond_false (hev t false hs M a hR) (w1 M a (hput t false hs M a hR) Q hQ)⟩
      | _ => rw [hs] at h; cases h
    · obtain ⟨e, s', h1, w1⟩ := ih1 _ k x h
      exact ⟨e, s', h1, fun M a hR Q hQ => wp_cond_true rfl (w1 M a hR Q hQ)⟩
    · obtain ⟨e, s', h1, w1⟩ := ih2 _ k x h
      exact ⟨e, s', h1, fun M a hR Q hQ => wp_cond_false rfl (w1 M a hR Q hQ)⟩
    · cases h
  | .block id c1, hc, hl, X, s, k, x, h => by
    obtain ⟨e1, s1, h1, w1⟩ := ZcZ hT hS hmix L E N ps c1 hc hl X s _ x h
    cases e1 with
    | normal => exact ⟨.normal, s1, h1, fun M a hR Q hQ => wp_block (w1 M a hR _ fun M' a' hR' => hQ M' a' hR')⟩
    | ret => exact ⟨.ret, s1, h1, fun M a hR Q hQ => wp_block (w1 M a hR _ fun M' a' hR' => hQ M' a' hR')⟩
    | exit j =>
      dsimp only at h1
      by_cases hj : j = id
      · subst hj
        simp at h1
        exact ⟨.normal, s1, h1, fun M a hR Q hQ => wp_block (w1 M a hR _ fun M' a' hR' => by
          simpa [ZfW, Exit.inBlock] using hQ M' a' hR')⟩
      · have hb : Nat.beq j id = false := by
          cases hb : Nat.beq j id
          · rfl
          · exact absurd (Nat.eq_of_beq_eq_true hb) hj
        rw [hb] at h1
        exact ⟨.exit j, s1, h1, fun M a hR Q hQ => wp_block (w1 M a hR _ fun M' a' hR' => by
          simpa [ZfW, Exit.inBlock, hj] using hQ M' a' hR')⟩
  | .loop c1, hc, hl, X, s, k, x, h => by
    obtain ⟨hrun, hl1⟩ := hl
    obtain ⟨o, h1, h2⟩ := Option.bind_eq_some_iff.1 h
    obtain ⟨r, h3, h2⟩ := Out.fold_eq h2
    obtain ⟨n, hn⟩ := hrun _ _ _ h1 h3
    have ih := ZcZ hT hS hmix L E N ps c1 hc hl1 (Ex × St)
    refine ⟨r.1, r.2, h2, fun M a hR Q hQ => ?_⟩
    obtain ⟨M0, hw0, hR0⟩ := ZkM hT hR (L.keep (Zbl c1)) (L.thaws (Zbl c1))
    rw [← hw0]
    refine ZlO (fun n a w => ∃ M s1, M.w = w ∧ Rel cfg.tab E N ps M s1 a ∧ ZM cfg L c1 n s1 = some r) (fun a w => ?_) (fun n a w => ?_) (n := n) ⟨M0, _, rfl, hR0, hn⟩
    · rintro ⟨M, s1, _, _, hr⟩
      simp [ZM] at hr
    · rintro ⟨M1, s1, rfl, hR1, hr⟩
      simp only [ZM] at hr
      obtain ⟨e', s'', hr2, w1⟩ := ih s1 _ _ hr
      refine w1 M1 a hR1 _ fun M' a' hR' => ?_
      cases e' with
      | normal =>
        obtain ⟨M2, hw2, hR2⟩ := ZkM hT hR' (L.keep (Zbl c1)) (L.thaws (Zbl c1))
        exact ⟨M2, _, hw2, hR2, hr2⟩
      | exit id =>
        simp only [Option.some.injEq] at hr2
        subst hr2
        obtain ⟨M2, hw2, hR2⟩ := Zg8 hR' (L.outs (Zbl c1))
        rw [← hw2]
        exact hQ M2 a' hR2
      | ret =>
        simp only [Option.some.injEq] at hr2
        subst hr2
        obtain ⟨M2, hw2, hR2⟩ := Zg8 hR' (L.outs (Zbl c1))
        rw [← hw2]
        exact hQ M2 a' hR2
  | .rangeFunc _ _ _ _, _, _, X, s, k, x, h => by cases h
  | .scope _, _, _, X, s, k, x, h => by cases h
  | .goto _, _, _, X, s, k, x, h => by cases h
  | .refuse _, _, _, X, s, k, x, h => by cases h
end
end Go.Eng
namespace Go.Eng
section
variable {P : Program} {tab : Tab}
def LentR (tab : Tab) (ρ : Nat → Option RB) (ps : List (V × Value)) (is : List Nat) : Prop := LentL tab ⟨default, ρ, fun _ => [], fun _ => [], fun _ => none⟩ ps is
theorem LentR.of {M : Mem} {ps : List (V × Value)} {is : List Nat} (h : LentR tab M.ρ ps is) : LentL tab M ps is := by
  unfold LentR at h
  generalize hM : (⟨default, M.ρ, fun _ => [], fun _ => [], fun _ => none⟩ : Mem) = M0 at h
  have hρ : M0.ρ = M.ρ := by rw [← hM]
  induction h with
  | nil => exact .nil
  | cons h1 _ ih =>
    refine .cons ?_ ih
    unfold Zgu at h1 ⊢
    rw [hρ] at h1; exact h1
theorem LentR.append {ρ : Nat → Option RB} {ps qs : List (V × Value)} {is js : List Nat} (h : LentR tab ρ ps is) (k : LentR tab ρ qs js) : LentR tab ρ (ps ++ qs) (is ++ js) := LentL.append h k
theorem Zha {w : World} {ok : Nat → Prop} {x : V} {v : Value} {t n : List Nat} (h : Rq1 tab w ok x v t n) (nid : Nat) :
    Adopted tab w ok nid (ZaV nid x).2 t n fun ρ => Rs tab w ok ρ (ZaV nid x).1 v ∧ LentR tab ρ (ZaQ [x] [v]) (ZdH nid [x]) := by
  cases h with
  | tree h =>
    rw [Zjn h]
    refine .none fun ρ => ⟨.tree h, ?_⟩
    cases h <;> exact .nil
  | row hrow =>
    rename_i T own els
    obtain ⟨Bs, e1, e2, e3, e4⟩ := ZcW (.row hrow) nid
    refine ⟨Bs, e1, e2, e3, fun ρ hρ => ⟨⟨(e4 ρ hρ).1, ?_⟩, (e4 ρ hρ).2⟩⟩
    obtain ⟨b, hb⟩ : ∃ b, Bs = [b] := by
      have : Bs.length = 1 := by have := congrArg List.length e1; simpa [ZaV] using this.symm
      match Bs, this with
      | [b], _ => exact ⟨b, rfl⟩
    subst hb
    have hb := (e4 ρ hρ).2 b (by simp)
    simp only [ZaV, List.map_cons, List.map_nil, List.cons.injEq, and_true] at e1
    rw [← e1] at hb
    obtain ⟨ty, v', q1, q2, q3, q4⟩ := hb
    have hr := hρ 0 b rfl
    simp only [Nat.add_zero] at hr
    rw [q2] at hr
    have hs := (e4 ρ hρ).1
    have hs : Rs tab w ok ρ (.sl nid T 0 none) v := hs
    cases hs with
    | tree hs => cases hs
    | sl _ _ _ _ sz N a a' cap m k1 k2 k3 k4 k5 k6 =>
      rw [hr] at k1
      simp only [Option.some.injEq, RB.row.injEq, true_and] at k1
      obtain ⟨-, hN, hv⟩ := k1
      subst hv
      obtain rfl := k6 rfl
      simp only [Option.getD_none, Nat.sub_zero] at k3
      subst k3
      exact .cons ⟨ty, q1, by simpa using hr⟩ .nil
  | deep hrow =>
    rename_i T els n
    obtain ⟨Bs, e1, e2, e3, e4⟩ := ZcW (.deep hrow) nid
    refine ⟨Bs, e1, e2, e3, fun ρ hρ => ⟨⟨(e4 ρ hρ).1, ?_⟩, (e4 ρ hρ).2⟩⟩
    obtain ⟨b, hb⟩ : ∃ b, Bs = [b] := by
      have : Bs.length = 1 := by have := congrArg List.length e1; simpa [ZaV] using this.symm
      match Bs, this with
      | [b], _ => exact ⟨b, rfl⟩
    subst hb
    have hb := (e4 ρ hρ).2 b (by simp)
    simp only [ZaV, List.map_cons, List.map_nil, List.cons.injEq, and_true] at e1
    rw [← e1] at hb
    obtain ⟨ty, v', n', q1, q2, q3, q4, q5⟩ := hb
    have hr := hρ 0 b rfl
    simp only [Nat.add_zero] at hr
    rw [q2] at hr
    have hs := (e4 ρ hρ).1
    have hs : Rs tab w ok ρ (.sl nid T 0 none) v := hs
    cases hs with
    | tree hs => cases hs
    | sl _ _ _ _ sz N a a' cap m k1 k2 k3 k4 k5 k6 =>
      rw [hr] at k1
      simp only [Option.some.injEq, RB.row.injEq, true_and] at k1
      obtain ⟨-, hN, hv⟩ := k1
      subst hv
      obtain rfl := k6 rfl
      simp only [Option.getD_none, Nat.sub_zero] at k3
      subst k3
      exact .cons ⟨ty, q1, by simpa using hr⟩ .nil
theorem ZmX (nid : Nat) (x : V) (xs : List V) : ZdH nid (x :: xs) = ZdH nid [x] ++ ZdH (nid + (ZaV nid x).2.length) xs := by
  cases x <;> simp [ZdH, ZaV]
theorem ZnX (x : V) (xs : List V) (v : Value) (vs : List Value) : ZaQ (x :: xs) (v :: vs) = ZaQ [x] [v] ++ ZaQ xs vs := by
  cases x <;> simp [ZaQ]
theorem Zlw {w : World} {ok : Nat → Prop} {xs : List V} {vs : List Value} {t n : List Nat} (h : RqL (Rq1 tab w ok) xs vs t n) :
    ∀ nid, Adopted tab w ok nid (Zaz ZaV nid xs).2 t n fun ρ => RsL tab w ok ρ (Zaz ZaV nid xs).1 vs ∧ LentR tab ρ (ZaQ xs vs) (ZdH nid xs) := by
  induction h with
  | nil => exact fun nid => .none fun ρ => ⟨.nil, .nil⟩
  | cons h1 _ ih =>
    intro nid
    refine (Zha h1 nid).append (ih _) fun ρ s1 s2 => ⟨RsL.cons s1.1 s2.1, ?_⟩
    rw [ZnX, ZmX]
    exact s1.2.append s2.2
theorem Zo2 {w : World} {ok : Nat → Prop} {x : V} {v : Value} {t n : List Nat} (h : Rq2 tab w ok x v t n) (nid : Nat) :
    Adopted tab w ok nid (ZbX nid x).2 t n fun ρ => Rs tab w ok ρ (ZbX nid x).1 v ∧ LentR tab ρ (Zb3 x v) (Zie nid x) := by
  have hagg : ∀ (cs : List V) (vs : List Value) (t n : List Nat), RqL (Rq1 tab w ok) cs vs t n → Adopted tab w ok nid (ZbX nid (.agg cs)).2 t n fun ρ => Rs tab w ok ρ (ZbX nid (.agg cs)).1 (.agg vs.toArray) ∧ LentR tab ρ (Zb3 (.agg cs) (.agg vs.toArray)) (Zie nid (.agg cs)) :=
    fun cs vs t n h => (Zlw h nid).weaken fun ρ hs => ⟨Rs.agg _ _ hs.1.1 hs.1.2, hs.2⟩
  have hplain : (∀ ρ, LentR tab ρ (Zb3 x v) (Zie nid x)) → Adopted tab w ok nid (ZbX nid x).2 t n fun ρ => Rs tab w ok ρ (ZbX nid x).1 v ∧ LentR tab ρ (Zb3 x v) (Zie nid x) :=
    fun hl => (Ze9 h nid).weaken fun ρ hs => ⟨hs, hl ρ⟩
  cases h with
  | agg h => exact hagg _ _ _ _ h
  | nb h hg => exact hplain fun ρ => .nil
  | @rf T cs c TT g t n h hg =>
    refine (Ze9 (Rq2.rf (T := T) h hg) nid).weaken fun ρ hs => ⟨hs, ?_⟩
    have hs : Rs tab w ok ρ (.bp nid 0) (.pointer (some ⟨g, 0, none⟩)) := hs
    cases hs with
    | tree hs => cases hs
    | bp _ _ _ hr => exact .cons ⟨g, hr, rfl⟩ .nil
  | @ro T off cs c TT g t n h hg =>
    refine (Ze9 (Rq2.ro (T := T) (off := off) h hg) nid).weaken fun ρ hs => ⟨hs, ?_⟩
    have hs : Rs tab w ok ρ (.bp nid off) (.pointer (some ⟨g, off, none⟩)) := hs
    cases hs with
    | tree hs => cases hs
    | bp _ _ _ hr => exact .cons ⟨g, hr, rfl⟩ .nil
  | one h =>
    cases h with
    | @row T own els v n h =>
      refine (Zha (.row h) nid).weaken fun ρ hs => ⟨hs.1, hs.2⟩
    | @deep T els v n h =>
      refine (Zha (.deep h) nid).weaken fun ρ hs => ⟨hs.1, hs.2⟩
    | tree h =>
      cases h with
      | agg cs vals hl h => exact hagg cs vals [] [] (.of_trees hl h)
      | _ => exact hplain fun ρ => .nil
theorem Zmi {w : World} {ok : Nat → Prop} {xs : List V} {vs : List Value} {t n : List Nat} (h : RqL (Rq2 tab w ok) xs vs t n) :
    ∀ nid, Adopted tab w ok nid (Zaz ZbX nid xs).2 t n fun ρ => RsL tab w ok ρ (Zaz ZbX nid xs).1 vs ∧ LentR tab ρ (Zbo xs vs) (Zko nid xs) := by
  induction h with
  | nil => exact fun nid => .none fun ρ => ⟨.nil, .nil⟩
  | cons h1 _ ih =>
    intro nid
    refine (Zo2 h1 nid).append (ih _) fun ρ s1 s2 => ⟨RsL.cons s1.1 s2.1, ?_⟩
    simp only [Zbo, Zko]
    exact s1.2.append s2.2
theorem ZjS : ∀ {xs : List V} {vs : List Value}, vs.length = xs.length → (ZaQ xs vs).map (fun p => isDr p.1) = lk1 xs
  | [], [], _ => rfl
  | [], _ :: _, h => by simp at h
  | _ :: _, [], h => by simp at h
  | x :: xs, v :: vs, h => by
    have ih := ZjS (xs := xs) (vs := vs) (by simpa using h)
    cases x <;> first | exact ih | exact congrArg (List.cons _) ih
theorem lk_lent {w : World} {ok : Nat → Prop} {x : V} {v : Value} {t n : List Nat} (h : Rq2 tab w ok x v t n) : (Zb3 x v).map (fun p => isDr p.1) = lkOf x := by
  cases h with
  | agg h => simpa [Zb3, lkOf] using ZjS h.length
  | nb h hg => rfl
  | rf h hg => rfl
  | ro h hg => rfl
  | one h =>
    cases h with
    | row h => rfl
    | deep h => rfl
    | tree h =>
      cases h with
      | agg cs vals hl h => simpa [Zb3, lkOf] using ZjS hl
      | _ => rfl
theorem lk_lentL {w : World} {ok : Nat → Prop} {xs : List V} {vs : List Value} {t n : List Nat} (h : RqL (Rq2 tab w ok) xs vs t n) : (Zbo xs vs).map (fun p => isDr p.1) = xs.flatMap lkOf := by
  induction h with
  | nil => rfl
  | cons h1 _ ih => simp [Zbo, ih, lk_lent h1]
theorem Zmj {gone : Nat → Bool} {E : Entry} {M : Mem} (hM : MemOk tab E M) {ps : List (V × Value)} {ids : List Nat} (hl : LentL tab M ps ids) : ∀ {ys : List V} {K log : List Nat}, ZeP gone ids M.hp = some ((ys, K), log) → Zd0 (ps.map fun p => isDr p.1) ys = true →
    ∃ t n, Given E M K [] t n fun ok' => OutL (Rq2 tab M.w ok') ps ys t n := by
  induction hl with
  | nil =>
    intro ys K log h _
    cases Zk (h := M.hp) h
    exact ⟨[], [], .none fun _ _ => .nil⟩
  | @cons p id ps ids hp _ ih =>
    intro ys K log h hk
    obtain ⟨px, pv⟩ := p
    unfold ZeP at h
    cases hgo : gone id with
    | true =>
      rw [hgo] at h
      obtain ⟨⟨ys', k'⟩, l3, b3, l3', h7, h8, h9⟩ := Zi h
      cases Zk h8
      cases h9
      simp only [List.map_cons, Zd0, Bool.and_eq_true] at hk
      obtain ⟨t2, n2, g2⟩ := ih h7 hk.2
      exact ⟨t2, n2, g2.mono fun ok' r2 => (OutL.cons (p := (px, pv)) (y := V.dead) (t := []) (n := []) trivial (.one (.tree (.dead _))) r2 : OutL _ _ _ ([] ++ t2) ([] ++ n2))⟩
    | false =>
    rw [hgo] at h
    obtain ⟨blk, l1, b1, l1', h1, h2, h3⟩ := Zi h
    obtain ⟨h1, -⟩ := ZaD h1
    cases h3
    dsimp only at h1
    cases blk with
    | box T cs =>
      obtain ⟨⟨y, k⟩, l2, b2, l2', h4, h5, h6⟩ := Zi h2
      obtain ⟨⟨ys', k'⟩, l3, b3, l3', h7, h8, h9⟩ := Zi h5
      cases Zk h8
      cases h9; cases h6
      obtain ⟨g, c, TT, q1, q2, q3, q4, q5, q6⟩ := hM.box h1
      cases px with
      | rf T0 cs0 =>
        obtain ⟨g', e1, rfl⟩ := ZhI hp
        have hx : M.Rs tab E (.bp id 0) (.pointer (some ⟨g', 0, none⟩)) := .bp id 0 g' e1
        obtain ⟨t1, n1, g1⟩ := Zfc hM (.inr rfl) hx h4
        obtain ⟨-, T', cs', rfl, -⟩ := Zgv hM hx h4
        simp only [List.map_cons, Zd0, Bool.and_eq_true] at hk
        obtain ⟨t2, n2, g2⟩ := ih h7 hk.2
        exact ⟨_, _, g1.append hM g2 fun ok' r1 r2 => .cons trivial r1 r2⟩
      | rr T0 o l =>
        obtain ⟨ty, e0, e1⟩ := (hp : ∃ ty, tab T0 = some ty ∧ M.ρ id = some (.row T0 ty.kinds.length l.length pv))
        rw [q1] at e1; cases e1
      | dr T0 l =>
        obtain ⟨ty, e0, e1⟩ := (hp : ∃ ty, tab T0 = some ty ∧ M.ρ id = some (.row T0 ty.kinds.length l.length pv))
        rw [q1] at e1; cases e1
      | _ => exact hp.elim
    | row T own els =>
      obtain ⟨⟨ys', k'⟩, l3, b3, l3', h7, h8, h9⟩ := Zi h2
      cases Zk h8
      cases h9
      obtain ⟨ty, v, xs, k1, k2, k3, k4, k5, k6, k7⟩ := hM.row h1
      cases px with
      | rf T0 cs0 =>
        obtain ⟨g', e1, rfl⟩ := ZhI hp
        rw [k2] at e1; cases e1
      | rr T0 o l =>
        obtain ⟨ty', e0, e1⟩ := (hp : ∃ ty, tab T0 = some ty ∧ M.ρ id = some (.row T0 ty.kinds.length l.length pv))
        rw [k2] at e1
        simp only [Option.some.injEq, RB.row.injEq] at e1
        obtain ⟨rfl, -, hlen, rfl⟩ := e1
        simp only [List.map_cons, Zd0, Bool.and_eq_true] at hk
        obtain ⟨t2, n2, g2⟩ := ih h7 hk.2
        have g1 : Given E M [id] [] (M.top id) (M.nest id) fun ok' => Rq2 tab M.w ok' (.rr T own els) v (M.top id) (M.nest id) :=
          ⟨fun g hg => ⟨id, by simp, hg⟩, fun g hg => by simp [Mem.foot, hg], fun _ => hM.nodup id, fun _ ok' o1 _ _ => by
            have := Rq1.row (k6.keep o1 (fun _ _ => rfl) fun _ _ => rfl)
            rw [← k5] at this
            exact .one this⟩
        exact ⟨_, _, (g1.append hM g2 fun ok' r1 r2 => .cons ⟨rfl, hlen⟩ r1 r2 : Given E M ([id] ++ k') ([] ++ []) _ _ _)⟩
      | dr T0 l => simp [Zd0, isDr] at hk
      | _ => exact hp.elim
    | hrow _ _ _ _ _ => exact (Zl (h := M.hp) h2).elim
    | grow _ _ => exact (Zl (h := M.hp) h2).elim
    | drow T els =>
      obtain ⟨⟨ys', k'⟩, l3, b3, l3', h7, h8, h9⟩ := Zi h2
      cases Zk h8
      cases h9
      obtain ⟨ty, v, xs, F, k1, k2, k3, k4, k5, k6, k7, k8⟩ := hM.drow h1
      cases px with
      | rf T0 cs0 =>
        obtain ⟨g', e1, rfl⟩ := ZhI hp
        rw [k2] at e1; cases e1
      | dr T0 l =>
        obtain ⟨ty', e0, e1⟩ := (hp : ∃ ty, tab T0 = some ty ∧ M.ρ id = some (.row T0 ty.kinds.length l.length pv))
        rw [k2] at e1
        simp only [Option.some.injEq, RB.row.injEq] at e1
        obtain ⟨rfl, -, hlen, rfl⟩ := e1
        simp only [List.map_cons, Zd0, Bool.and_eq_true] at hk
        obtain ⟨t2, n2, g2⟩ := ih h7 hk.2
        have g1 : Given E M [id] [] (M.top id) (M.nest id) fun ok' => Rq2 tab M.w ok' (.dr T els) v (M.top id) (M.nest id) :=
          ⟨fun g hg => ⟨id, by simp, hg⟩, fun g hg => by simp [Mem.foot, hg], fun _ => hM.nodup id, fun _ ok' o1 _ _ => by
            have := Rq1.deep (ok := ok') (k8.keep (fun _ h => h.elim) (fun _ h => h.elim) fun _ _ => rfl)
            rw [k6, k7]
            exact .one this⟩
        exact ⟨_, _, (g1.append hM g2 fun ok' r1 r2 => .cons ⟨rfl, hlen⟩ r1 r2 : Given E M ([id] ++ k') ([] ++ []) _ _ _)⟩
      | rr T0 o l => simp [Zd0, isDr] at hk
      | _ => exact hp.elim
end
end Go.Eng
namespace Go.Eng
section
variable {P : Program} {tab : Tab}
theorem ZpO {t : TypeId} {pv v : Value} {w w' : World} (h : (Instr.loadAt t pv).run P w = .ok v w') : (do loadVar t (← asAddr pv) : Sem Value).run P w = .ok v w' := by
  cases pv with
  | pointer a =>
    cases a with
    | some a => simpa [Instr.loadAt, Instr.sureAddr, asAddr] using h
    | none => simp [Instr.loadAt, Instr.sureAddr, stuck] at h
  | _ => simp [Instr.loadAt, Instr.sureAddr, stuck] at h
def ZiA (tmps : Array Value) : ResultVar → Sem Value
  | .tmp t => pure (tmps.getD t undef)
  | .cell a t => do loadVar t (← asAddr (tmps.getD a undef))
theorem ZiB (hT : Zx P tab) {E : Entry} {M : Mem} {s : St} {a : Act} (hM : MemOk tab E M) (hsl : Slots tab E M s.slot a) :
    ∀ (rs : List ResultVar) {vs : List V} {log : List Nat}, ZeV tab s rs M.hp = some (vs, log) → ∃ vals, (rs.mapM (ZiA a.tmps)).run P M.w = .ok vals M.w ∧ RsL tab M.w (okS E M) M.ρ vs vals
  | [], vs, log, h => by
    cases Zk (h := M.hp) h
    exact ⟨[], by simp, .nil⟩
  | r :: rs, vs, log, h => by
    obtain ⟨v, l1, b1, l1', h1, h2, h3⟩ := Zi h
    obtain ⟨vs', l2, b2, l2', h4, h5, h6⟩ := Zi h2
    cases Zk h5
    cases h6; cases h3
    obtain ⟨vals, r1, r2⟩ := ZiB hT hM hsl rs h4
    have hv : ∃ val, (ZiA a.tmps r).run P M.w = .ok val M.w ∧ M.Rs tab E v val := by
      cases r with
      | tmp t =>
        cases Zk (h := M.hp) h1
        exact ⟨_, by simp [ZiA, Act.eval], hsl t⟩
      | cell t T =>
        obtain ⟨val, k1, k2⟩ := Zhz hT hM (hsl t) h1
        exact ⟨val, ZpO k1, k2⟩
    obtain ⟨val, k1, k2⟩ := hv
    refine ⟨val :: vals, ?_, RsL.cons k2 r2⟩
    simp [List.mapM_cons, Sem.run_bind, k1, r1]
def Zge (vs : List V) : V := match vs with | [v] => v | vs => .tup vs
theorem ZjC (hT : Zx P tab) {E : Entry} {M : Mem} {s : St} {a : Act} (hM : MemOk tab E M) (hsl : Slots tab E M s.slot a) {fn : Func} {vs : List V} {log : List Nat}
    (h : ZeV tab s fn.results.toList M.hp = some (vs, log)) : ∃ val, (results fn a.tmps).run P M.w = .ok val M.w ∧ M.Rs tab E (Zge vs) val := by
  obtain ⟨vals, h1, h2⟩ := ZiB hT hM hsl fn.results.toList h
  have hrun : (results fn a.tmps).run P M.w = .ok (if h : vals.toArray.size = 1 then vals.toArray[0] else .tuple vals.toArray) M.w := by
    have hmap : (fn.results.mapM (ZiA a.tmps)).run P M.w = .ok vals.toArray M.w := by
      rw [Array.mapM_eq_mapM_toList, Sem.run_map, h1]
      rfl
    have : results fn a.tmps = (do let vs ← fn.results.mapM (ZiA a.tmps); pure (if h : vs.size = 1 then vs[0] else .tuple vs)) := by
      unfold results
      congr 1
    rw [this, Sem.run_bind, hmap]
    rfl
  refine ⟨_, hrun, ?_⟩
  clear h h1 hrun
  match vs, vals, h2 with
  | [v], [val], h2 => simpa [Zge] using h2.head.1
  | [], [], h2 => exact .tup [] [] h2.1 h2.2
  | v :: v' :: vs, val :: val' :: vals, h2 =>
    have := Rs.tup _ _ h2.1 h2.2
    simpa [Zge] using this
  | [], _ :: _, h2 => have := h2.1; simp at this
  | _ :: _, [], h2 => have := h2.1; simp at this
  | [_], _ :: _ :: _, h2 => have := h2.1; simp at this
  | _ :: _ :: _, [_], h2 => have := h2.1; simp at this
theorem ZlP (us : Us) : (look us.blks : ZaC) = fun i => (ZZ us i).map fun b => some b.blk := by
  funext i
  induction us with
  | nil => rfl
  | cons u us ih =>
    simp only [Us.blks, List.map_cons] at ih ⊢
    rw [ZB, ih]
    simp only [ZZ]
    by_cases e : i = u.1
    · simp [e]
    · rw [if_neg e, if_neg (Ne.symm e)]
theorem entry_ok {tab : Tab} {w : World} {ok : Nat → Prop} {t n : List Nat} {us : Us} (hkeys : (us.map (·.1)).Nodup) (ht : t = us.flatMap (·.2.t)) (hn : n = us.flatMap (·.2.n)) (hnd : (t ++ n).Nodup)
    (hok : ∀ g, ok g → g < w.heap.size ∧ g ∉ t) (hlt : ∀ g ∈ t ++ n, g < w.heap.size) (M : Mem)
    (hMe : M = { w := w, ρ := fun i => (ZZ us i).map (·.rb), top := fun i => ((ZZ us i).map (·.t)).getD [], nest := fun i => ((ZZ us i).map (·.n)).getD [], hp := look us.blks })
    (hb : ∀ u ∈ us, BlkIs tab w ok M.ρ u.2.blk (some u.2.rb) u.2.t u.2.n) :
    MemOk tab { W0 := w, okA := ok, Ft := t, Fn := n } M ∧ ∀ g, ok g → okS { W0 := w, okA := ok, Ft := t, Fn := n } M g := by
  have htop : ∀ id, ∀ g ∈ M.top id, g ∈ t := by
    intro id g hg
    rw [hMe] at hg
    cases hl : ZZ us id with
    | none => simp [hl] at hg
    | some b => simp [hl] at hg; rw [ht]; exact (ZhJ hl).1 g hg
  have hnest : ∀ id, ∀ g ∈ M.nest id, g ∈ n := by
    intro id g hg
    rw [hMe] at hg
    cases hl : ZZ us id with
    | none => simp [hl] at hg
    | some b => simp [hl] at hg; rw [hn]; exact (ZhJ hl).2 g hg
  have hw : M.w = w := by rw [hMe]
  have hokS : ∀ g, ok g → okS { W0 := w, okA := ok, Ft := t, Fn := n } M g := fun g hg =>
    ⟨.inl hg, by rw [hw]; exact (hok g hg).1, fun id hid => (hok g hg).2 (htop id g hid)⟩
  rw [ht, hn] at hnd
  obtain ⟨f1, f2⟩ := ZkC hnd
  rw [← ht, ← hn] at hnd
  have hhp : M.hp = fun i => (ZZ us i).map fun b => some b.blk := by rw [hMe]; exact ZlP us
  have hget : ∀ id, (ZZ us id = none ∧ M.ρ id = none ∧ M.top id = [] ∧ M.nest id = []) ∨ ∃ b, ZZ us id = some b ∧ M.ρ id = some b.rb ∧ M.top id = b.t ∧ M.nest id = b.n := fun id => by
    cases hl : ZZ us id with
    | none => exact .inl ⟨rfl, by rw [hMe]; simp [hl], by rw [hMe]; simp [hl], by rw [hMe]; simp [hl]⟩
    | some b => exact .inr ⟨b, rfl, by rw [hMe]; simp [hl], by rw [hMe]; simp [hl], by rw [hMe]; simp [hl]⟩
  refine ⟨⟨fun id b h => ?_, fun id h => ?_, fun id h => ?_, fun id => ?_, fun id id' hne g hg hg' => ?_, fun id g hg => ?_, fun id g hg => ?_, ?_⟩, hokS⟩
  · rw [hhp] at h
    rcases hget id with ⟨e, _⟩ | ⟨b', e, e1, e2, e3⟩
    · simp [e] at h
    · simp [e] at h
      subst h
      rw [e1, e2, e3, hw]
      exact (hb _ (Zdh e)).keep (fun _ _ h => h) hokS (fun _ _ => rfl) fun _ _ => rfl
  · rcases hget id with ⟨_, e⟩ | ⟨b', e, e1, e2, e3⟩
    · exact e
    · rw [hhp] at h; simp [e] at h
  · rcases hget id with ⟨_, e⟩ | ⟨b', e, e1, e2, e3⟩
    · exact e.2
    · rw [hhp] at h; simp [e] at h
  · rcases hget id with ⟨_, _, e2, e3⟩ | ⟨b', e, e1, e2, e3⟩
    · rw [e2, e3]; simp
    · rw [e2, e3]; exact f1 _ (Zdh e)
  · rcases hget id with ⟨_, _, e2, e3⟩ | ⟨b, e, e1, e2, e3⟩
    · rw [e2, e3] at hg; simp at hg
    · rcases hget id' with ⟨_, _, e2', e3'⟩ | ⟨b', e', e1', e2', e3'⟩
      · rw [e2', e3'] at hg'; simp at hg'
      · rw [e2, e3] at hg; rw [e2', e3'] at hg'
        exact f2 id id' b b' e e' hne g hg hg'
  · have hmem : g ∈ t ++ n := by
      rcases List.mem_append.1 hg with hg | hg
      · exact List.mem_append_left _ (htop id g hg)
      · exact List.mem_append_right _ (hnest id g hg)
    exact ⟨.inl hmem, by rw [hw]; exact hlt g hmem⟩
  · exact .inl (htop id g hg)
  · rw [hw]; exact .refl _ _
theorem Zfy : ∀ (vs : List V) (n t : Nat), (look (Zci n vs) t).getD .dead = if n ≤ t then vs.getD (t - n) .dead else .dead
  | [], n, t => by simp [Zci, Zgq]
  | v :: vs, n, t => by
    simp only [Zci]
    rw [ZB]
    by_cases h1 : t = n
    · subst h1; simp
    · rw [if_neg h1, Zfy vs (n + 1) t]
      by_cases h2 : n ≤ t
      · have : t - n = (t - (n + 1)) + 1 := by omega
        rw [if_pos (by omega), if_pos h2, this]; simp
      · rw [if_neg (by omega), if_neg h2]
theorem kept_inv {ks : List Bool} {o : Option (V × List V)} {r : V × List V} (h : kept ks o = some r) : o = some r ∧ Zd0 ks r.2 = true := by
  cases o with
  | none => cases h
  | some x =>
    simp only [kept] at h
    cases hk : Zd0 ks x.2 with
    | false => rw [hk] at h; cases h
    | true => rw [hk] at h; cases h; exact ⟨rfl, hk⟩
theorem Zo3 (hT : Zx P tab) {E : Entry} {N : Nat} {ps : List (V × Value)} {M : Mem} {s : St} {a : Act} (h : Rel tab E N ps M s a) (t : Nat) : ∃ M', M'.w = M.w ∧ Rel tab E N ps M' (cutS s t) a := by
  unfold cutS
  split
  · rename_i id T n hs
    have := Zg9 hT h ⟨t, none, true⟩
    unfold Zkn at this
    simp only [hs] at this
    exact this
  · exact ⟨M, rfl, h⟩
theorem ZiC (hT : Zx P tab) {E : Entry} {N : Nat} {ps : List (V × Value)} {a : Act} : ∀ (ts : List Nat) {M : Mem} {s : St}, Rel tab E N ps M s a → ∃ M', M'.w = M.w ∧ Rel tab E N ps M' (Ze5 s ts) a
  | [], M, s, h => ⟨M, rfl, h⟩
  | t :: ts, M, s, h => by
    obtain ⟨M1, h1, h2⟩ := Zo3 hT h t
    obtain ⟨M2, h3, h4⟩ := ZiC hT ts h2
    exact ⟨M2, h3.trans h1, h4⟩
theorem ZjD (hT : Zx P tab) {f : FuncId} {fn : Func} {c : Code} (hf : P.funcs[f]? = some fn) (hb : fn.body = some c) {args : List V} (hlen : args.length ≤ fn.ntmps) (cuts : List Nat) {r : V × List V}
    (hcode : ∀ (E : Entry) (ps : List (V × Value)), ∃ e s', (match e with | .exit _ => none | _ => kept (args.flatMap lkOf) (Zgs tab fn.results.toList (Ze5 (Zeh tab s' s'.lent) cuts))) = some r ∧
      ∀ (M : Mem) (a : Act), Rel tab E fn.ntmps ps M (ZiY args) a → ∀ Q : Exit → Act → World → Prop, (∀ M' a', Rel tab E fn.ntmps ps M' s' a' → Q (ZfW e) a' M'.w) → c.wp P Q a M.w) : SumOk P tab f args r := by
  intro w ok vals t n hr hnd hok hlt
  obtain ⟨Bs, b0, b1, b2, b3, b4⟩ := (Zmi hr 0).numB
  obtain ⟨e, s', hk, hw⟩ := hcode { W0 := w, okA := ok, Ft := t, Fn := n } (Zbo args vals)
  have hvl := hr.length
  have hu := ZhH 0 Bs
  have hρ0 : ∀ u ∈ numB 0 Bs, (fun i => (ZZ (numB 0 Bs) i).map (·.rb)) u.1 = some u.2.rb := fun u hu' => by simp [ZmK hu hu']
  obtain ⟨⟨s1, s2⟩, s3⟩ := b4 (fun i => (ZZ (numB 0 Bs) i).map (·.rb)) hρ0
  obtain ⟨m1, m2⟩ := entry_ok hu b2 b3 hnd hok hlt _ rfl s3
  generalize hM0 : ({ w := w, ρ := fun i => (ZZ (numB 0 Bs) i).map (·.rb), top := fun i => ((ZZ (numB 0 Bs) i).map (·.t)).getD [], nest := fun i => ((ZZ (numB 0 Bs) i).map (·.n)).getD [], hp := look (Us.blks (numB 0 Bs)) } : Mem) = M0 at m1 m2
  have hM0w : M0.w = w := by rw [← hM0]
  have hM0ρ : M0.ρ = fun i => (ZZ (numB 0 Bs) i).map (·.rb) := by rw [← hM0]
  have hM0hp : M0.hp = look (Us.blks (numB 0 Bs)) := by rw [← hM0]
  refine calls_of_wp hf hb ?_
  have hsz : (vals.toArray ++ Array.replicate (fn.ntmps - vals.toArray.size) undef).size = fn.ntmps := by simp; omega
  have hrel : Rel tab { W0 := w, okA := ok, Ft := t, Fn := n } fn.ntmps (Zbo args vals) M0 (ZiY args) { tmps := vals.toArray ++ Array.replicate (fn.ntmps - vals.toArray.size) undef, defers := [] } := by
    refine ⟨⟨m1, .refl _ _, ?_, fun u => ?_⟩, LentR.of (by rw [hM0ρ]; exact s2), fun id hid => ?_, hsz, rfl⟩
    · rw [hM0hp, ← b1]; rfl
    · have : (ZiY args).F.sl u = (Zaz ZbX 0 args).1.getD u .dead := by
        show (look (Zci 0 _) u).getD .dead = _
        rw [Zfy]; simp
      rw [this]
      by_cases hu' : u < (Zaz ZbX 0 args).1.length
      · have hv := s1.2 u hu'
        rw [← hM0ρ] at hv
        have hv' := hv.mono (ok' := okS { W0 := w, okA := ok, Ft := t, Fn := n } M0) (w' := M0.w) (fun _ _ h => h) m2 fun _ _ => by rw [hM0w]
        have he : ({ tmps := vals.toArray ++ Array.replicate (fn.ntmps - vals.toArray.size) undef, defers := [] } : Act).eval (.tmp u) = vals.getD u undef := by
          have hl : u < vals.length := by rw [s1.1]; exact hu'
          simp [Act.eval, Array.getElem?_append, hl, List.getD]
        rw [he]; exact hv'
      · have : (Zaz ZbX 0 args).1.getD u .dead = .dead := by simp [List.getD, List.getElem?_eq_none (Nat.le_of_not_lt hu')]
        rw [this]; exact .tree (.dead _)
    · show look (ZcL 0 _) id = none
      have hid' : (Zaz ZbX 0 args).2.length ≤ id := hid
      rw [b1, ZlP]
      simp only [Option.map_eq_none_iff]
      rw [lookU_none]
      intro hm
      obtain ⟨u, hu', e⟩ := List.mem_map.1 hm
      have := Zd3 u hu'
      omega
  have main := hw M0 _ hrel
  rw [hM0w] at main
  refine main _ fun M1 a' hR1 => ?_
  obtain ⟨M1', hw2', hR1'⟩ := Zh9 hT s'.lent hR1
  obtain ⟨M', hw2'', hR'⟩ := ZiC hT cuts hR1'
  have hw2 := hw2''.trans hw2'
  rw [← hw2]
  have hfin : (∀ id, e ≠ .exit id) → kept (args.flatMap lkOf) (Zgs tab fn.results.toList (Ze5 (Zeh tab s' s'.lent) cuts)) = some r := fun hne => by
    cases e with
    | exit id => exact absurd rfl (hne id)
    | normal => exact hk
    | ret => exact hk
  have hpost : kept (args.flatMap lkOf) (Zgs tab fn.results.toList (Ze5 (Zeh tab s' s'.lent) cuts)) = some r → a'.defers = [] ∧ ∃ v, (results fn a'.tmps).run P M'.w = .ok v M'.w ∧
      (fun e w' => ∃ val, e = Ending.returned val ∧ Zky tab w ok args vals t n r val w') (.returned v) M'.w := by
    intro hfi
    obtain ⟨hfi, hal⟩ := kept_inv hfi
    refine ⟨hR'.defers, ?_⟩
    unfold Zgs at hfi
    split at hfi
    · rename_i r' log hq
      cases hfi
      rw [show (Ze5 (Zeh tab s' s'.lent) cuts).heap = M'.hp from hR'.rel.hp.symm] at hq
      obtain ⟨vs, l1, x1, l1', h1, h2, h3⟩ := Zi hq
      obtain ⟨⟨y, K1⟩, l2, x2, l2', h4, h5, h6⟩ := Zi h2
      obtain ⟨⟨ys, K2⟩, l3, x3, l3', h7, h8, h9⟩ := Zi h5
      obtain ⟨h10, h11⟩ := Zv h8
      cases Zk h11
      cases h9; cases h6; cases h3
      obtain ⟨val, hrun, hval⟩ := ZjC hT hR'.rel.mem hR'.rel.slots h1
      refine ⟨val, hrun, val, rfl, ?_⟩
      obtain ⟨rt, rn, g1⟩ := ZmI hR'.rel.mem hval h4
      obtain ⟨ot, on, g2⟩ := Zmj hR'.rel.mem hR'.lent h7 (by rw [lk_lentL hr]; exact hal)
      have g := g2.append hR'.rel.mem g1 (Q := fun ok' => Rq3 tab M'.w ok' y val rt rn ∧ OutL (Rq2 tab M'.w ok') (Zbo args vals) ys ot on) fun ok' q2 q1 => ⟨q1, q2⟩
      have hKn : (K2 ++ K1).Nodup := (List.perm_append_comm.nodup_iff).1 (ZcI h10)
      have hmem := hR'.rel.mem
      have hmine : ∀ k g, g ∈ M'.top k ++ M'.nest k → (g ∈ t ++ n ∨ w.heap.size ≤ g) ∧ g < M'.w.heap.size := fun k g hg => hmem.mine k g hg
      have o1 : ∀ g', okS { W0 := w, okA := ok, Ft := t, Fn := n } M' g' → (ok g' ∨ g' ∈ t ++ n ∨ w.heap.size ≤ g') ∧ g' < M'.w.heap.size ∧ g' ∉ ot ++ rt := fun g' hg' => by
        refine ⟨hg'.1, hg'.2.1, fun hgt => ?_⟩
        obtain ⟨k, _, hgk⟩ := g.top g' hgt
        exact hg'.2.2 k hgk
      have o2 : ∀ k ∈ K2 ++ K1, ∀ g' ∈ M'.top k, g' ∉ ot ++ rt → (ok g' ∨ g' ∈ t ++ n ∨ w.heap.size ≤ g') ∧ g' < M'.w.heap.size ∧ g' ∉ ot ++ rt := fun k _ g' hg' hgt =>
        ⟨.inr (hmine k g' (List.mem_append_left _ hg')).1, (hmine k g' (List.mem_append_left _ hg')).2, hgt⟩
      obtain ⟨q1, q2⟩ := g.is hKn (fun g => (ok g ∨ g ∈ t ++ n ∨ w.heap.size ≤ g) ∧ g < M'.w.heap.size ∧ g ∉ ot ++ rt) o1 o2 (by simp)
      refine ⟨rt, rn, ot, on, q1, q2, g.nodup hKn, fun g' hg' => ?_, fun g' hg' => ?_, fun g' hg' => ?_, hmem.kept⟩
      · obtain ⟨k, _, hgk⟩ := g.top g' hg'
        exact hmem.mineT k g' hgk
      · obtain ⟨k, _, hgk⟩ := Mem.mem_foot.1 (g.nest g' hg')
        exact (hmine k g' hgk).1
      · obtain ⟨k, _, hgk⟩ := Mem.mem_foot.1 (g.foot g' hg')
        exact (hmine k g' hgk).2
    · cases hfi
  cases e with
  | normal => exact hpost (hfin (by simp))
  | ret => exact hpost (hfin (by simp))
  | exit id => cases hk
theorem fn_sound {cfg : Cfg} (hT : Zx P cfg.tab) (hS : Zbh P cfg.tab cfg.sums) (hmix : P.follows .mixedOrders = true) (L : Loops) {f : FuncId} {fn : Func} {c : Code} (hf : P.funcs[f]? = some fn) (hb : fn.body = some c)
    (hc : ZaW fn.ntmps c = true) (hL : ZI cfg L c) {args : List V} (hlen : args.length ≤ fn.ntmps) {r : V × List V} (h : Zes cfg L fn args = some r) : SumOk P cfg.tab f args r := by
  unfold Zes at h
  rw [hb] at h
  exact ZjD hT hf hb hlen L.cuts fun E ps => ZcZ hT hS hmix L E fn.ntmps ps c hc hL _ _ _ _ h
end
end Go.Eng
namespace Go.Eng
def zeroB : Ck → Value → Bool
  | .int k, .int k' n => decide (k' = k) && decide (n = 0)
  | .bool, .bool b => !b
  | .str, .string s => s.data.toList.isEmpty
  | .sl _, .slice none 0 0 => true
  | .ptr, .pointer none => true
  | .fn, .nilFunc => true
  | .other, .nilIface => true
  | _, _ => false
theorem Zo4 {k : Ck} {v : Value} (h : zeroB k v = true) : v = ZbS k := by
  unfold zeroB at h
  split at h
  · simp at h; obtain ⟨rfl, rfl⟩ := h; rfl
  · simp at h; subst h; rfl
  · rename_i s
    obtain ⟨⟨l⟩⟩ := s
    cases l with
    | nil => rfl
    | cons _ _ => simp at h
  all_goals first | rfl | (cases h)
def ZkN : List Ck → List Value → Bool
  | [], [] => true
  | k :: ks, v :: vs => zeroB k v && ZkN ks vs
  | _, _ => false
theorem ZjE : ∀ {ks : List Ck} {vs : List Value}, ZkN ks vs = true → vs = ks.map ZbS
  | [], [], _ => rfl
  | k :: ks, v :: vs, h => by
    simp only [ZkN, Bool.and_eq_true] at h
    rw [List.map_cons, Zo4 h.1, ZjE h.2]
  | [], _ :: _, h => by cases h
  | _ :: _, [], h => by cases h
def flatB (d : TypeDesc) (ks : List Ck) (el : Option TypeId) : Bool :=
  match d, ks with
  | .int k, [.int k'] => decide (k = k') && el.isNone
  | .string, [.str] => el.isNone
  | .bool, [.bool] => el.isNone
  | .slice e, [.sl e'] => decide (e = e') && decide (el = some e)
  | .pointer _, [.ptr] => el.isNone
  | .func .., [.fn] => el.isNone
  | _, _ => false
def tyOkB (P : Program) (T : TypeId) (ty : Ty) : Bool :=
  match P.info? T with
  | none => false
  | some i => match i.zero with
    | none => false
    | some z => decide (i.size = ty.kinds.length) && (decide (i.bytes = ty.bytes) && (ZkN ty.kinds z.cells.toList && (decide (0 < ty.kinds.length) &&
      match P.underlying T with
      | some (.struct fs) => ty.agg && ((match z with | .agg _ => true | _ => false) && (decide (fs.toList.map (fun f => (f.offset, f.type)) = ty.fields) && (fs.toList.all (fun f => (P.info? f.type).isSome) && (ty.elem.isNone && ((!eqTy ty || (!P.stoodInHeld T && (!P.eqGuardType P.depth T && ZfJ P (P.fieldsOf T).toList ty.kinds 0))) && (!Zka ty || (!P.stoodInHeld T && (!P.eqGuardType P.depth T && ZiZ P (P.fieldsOf T).toList ty.kinds))))))))
      | some d => !ty.agg && (ty.fields.isEmpty && flatB d ty.kinds ty.elem)
      | none => false)))
theorem Zo5 {P : Program} {tab : Tab} {T : TypeId} {ty : Ty} (h : tyOkB P T ty = true) : TyOk P tab T ty := by
  unfold tyOkB at h
  split at h
  · cases h
  · rename_i i hi
    split at h
    · cases h
    · rename_i z hz
      simp only [Bool.and_eq_true, decide_eq_true_eq] at h
      obtain ⟨h1, h2, h3, h4, h5⟩ := h
      have h3 := ZjE h3
      split at h5
      · rename_i fs hu
        simp only [Bool.and_eq_true, decide_eq_true_eq, List.all_eq_true] at h5
        obtain ⟨ha, hzz, hf, hinf, hel, heq, heqn⟩ := h5
        have hz2 : z = .agg z.cells := by
          cases z <;> first | rfl | (simp at hzz)
        refine ⟨⟨i, z, hi, h1, h2, hz, h3, fun _ => hz2⟩, h4, fun _ => ⟨fs, hu, hf, fun f hfm => Option.isSome_iff_exists.1 (hinf f hfm)⟩, fun h => ?_, fun e he => ?_, fun _ h => ?_, fun h => ?_, fun h => ?_, fun _ h => ?_, fun h => ?_, fun h => ?_⟩
        rotate_right
        · rw [h] at heqn
          simpa using heqn
        rotate_right
        · rw [h] at heq
          simpa using heq
        · rw [ha] at h; cases h
        · rw [he] at hel; cases hel
        all_goals (rw [ha] at h; cases h)
      · rename_i d hns hu
        simp only [Bool.and_eq_true, Bool.not_eq_true', List.isEmpty_iff] at h5
        obtain ⟨ha, hf, hfl⟩ := h5
        have hfl' := hfl
        unfold flatB at hfl
        have hlen : ty.kinds.length = 1 ∧ (∀ fs, d ≠ .struct fs) ∧ (∀ n e, d ≠ .array n e) := by
          split at hfl <;> first | (cases hfl; done) | (rename_i hk; simp [hk])
        refine ⟨⟨i, z, hi, h1, h2, hz, h3, fun h => (by rw [ha] at h; cases h)⟩, h4, fun h => (by rw [ha] at h; cases h), fun _ => ⟨hlen.1, hf, d, hu, hlen.2.1, hlen.2.2⟩, fun e he => ?_, fun k _ hk => ?_, fun _ hk => ?_, fun _ hk => ?_, fun e _ hk => ?_, fun h => (by unfold eqTy at h; rw [ha] at h; cases h), fun h => (by unfold Zka at h; rw [ha] at h; cases h)⟩
        · split at hfl <;> simp_all
        · split at hfl <;> simp_all
        · split at hfl <;> simp_all
        · split at hfl <;> simp_all
        · split at hfl <;> simp_all
      · cases h5
def tabOf (ch : List (List (Option Ty))) : Tab := fun T => (ch.getD (T / 16) []).getD (T % 16) none
def tabB (P : Program) (ch : List (List (Option Ty))) : Bool := (List.range (16 * ch.length)).all fun T => match tabOf ch T with | some ty => tyOkB P T ty | none => true
theorem ZpP {P : Program} {ch : List (List (Option Ty))} (h : tabB P ch = true) : Zx P (tabOf ch) := by
  intro T ty hT
  have hlt : T < 16 * ch.length := by
    rcases Nat.lt_or_ge T (16 * ch.length) with h | h
    · exact h
    · exfalso
      have : ch.length ≤ T / 16 := by omega
      unfold tabOf at hT
      rw [show ch.getD (T / 16) [] = [] from by simp [List.getD, List.getElem?_eq_none this]] at hT
      simp at hT
  unfold tabB at h
  rw [List.all_eq_true] at h
  have := h T (List.mem_range.2 hlt)
  rw [hT] at this
  exact Zo5 this
theorem look_mem {α : Type} {l : List (Nat × α)} {i : Nat} {x : α} (h : look l i = some x) : (i, x) ∈ l := by
  induction l with
  | nil => simp [Zgq] at h
  | cons p l ih =>
    rw [ZB] at h
    split at h
    · rename_i e
      cases h; subst e; simp
    · exact List.mem_cons_of_mem _ (ih h)
def Zlx (P : Program) (f : FuncId) : Bool := match P.funcs[f]? with
  | some fn => !(fn.name == "runtime.NumGoroutine") && fn.body.isSome
  | none => false
theorem ZmY {P : Program} {f : FuncId} (h : Zlx P f = true) : ZfU P f := by
  unfold Zlx at h
  split at h
  · rename_i fn hf
    simp only [Bool.and_eq_true, Bool.not_eq_true'] at h
    exact ⟨fn, hf, h.1, by cases hb : fn.body <;> simp_all⟩
  · cases h
end Go.Eng
namespace Go.Eng
def ZY (fn : Func) : Code := fn.body.getD .skip
def fnOk (fn : Func) : Bool := fn.body.isSome && ZaW fn.ntmps (ZY fn)
def ZcJ : Code → List Code
  | .seq a b => ZcJ a ++ ZcJ b
  | .cond _ a b => ZcJ a ++ ZcJ b
  | .block _ a => ZcJ a
  | .loop a => a :: ZcJ a
  | _ => []
theorem Zdp {cfg : Cfg} {L : Loops} : ∀ (c : Code), (∀ a ∈ ZcJ c, ∀ s o r, L.run (Zbl a) s = some o → o.get = some r → ∃ n, ZM cfg L a n s = some r) → ZI cfg L c
  | .seq a b, h => ⟨Zdp a fun x hx => h x (List.mem_append_left _ hx), Zdp b fun x hx => h x (List.mem_append_right _ hx)⟩
  | .cond _ a b, h => ⟨Zdp a fun x hx => h x (List.mem_append_left _ hx), Zdp b fun x hx => h x (List.mem_append_right _ hx)⟩
  | .block _ a, h => Zdp a h
  | .loop a, h => ⟨h a (by simp [ZcJ]), Zdp a fun x hx => h x (by simp [ZcJ, hx])⟩
  | .skip, _ => trivial
  | .region _ _ _, _ => trivial
  | .rangeFunc _ _ _ _, _ => trivial
  | .exit _, _ => trivial
  | .scope _, _ => trivial
  | .label _, _ => trivial
  | .goto _, _ => trivial
  | .ret, _ => trivial
  | .refuse _, _ => trivial
structure Base (P : Program) (tab : Tab) : Prop where
  tab : Zx P tab
  mixed : P.follows .mixedOrders = true
theorem Base.fn {P : Program} {cfg : Cfg} (hB : Base P cfg.tab) (hS : Zbh P cfg.tab cfg.sums) {f : FuncId} {fn : Func} (hf : P.funcs[f]? = some fn) (hok : fnOk fn = true) {L : Loops} (hL : ZI cfg L (ZY fn))
    {args : List V} (hlen : Nat.ble args.length fn.ntmps = true) {r : V × List V} (h : Zes cfg L fn args = some r) : SumOk P cfg.tab f args r := by
  simp only [fnOk, Bool.and_eq_true] at hok
  have hb : fn.body = some (ZY fn) := by
    unfold ZY
    cases hq : fn.body with
    | none => rw [hq] at hok; simp at hok
    | some c => rfl
  exact fn_sound hB.tab hS hB.mixed L hf hb hok.2 hL (Nat.le_of_ble_eq_true hlen) h
theorem Zcj {P : Program} {f : FuncId} {fn : Func} (hf : P.funcs[f]? = some fn) (h : (!(fn.name == "runtime.NumGoroutine") && fn.body.isSome) = true) : ZfU P f := by
  refine ZmY ?_
  unfold Zlx
  rw [hf]; exact h
end Go.Eng
namespace Go.Eng
section
variable {P : Program} {tab : Tab}
inductive S1 where
  | int (k : IntKind) | bool | str | inl (T : TypeId) | rr (T : TypeId) (own : Bool)
  | nil (T : TypeId) | sl (id : Nat) (T : TypeId) | slo (id : Nat) (T : TypeId) | sll (id : Nat) (T : TypeId)
  | bp (id off : Nat) | rp (id off : Nat) | dead | dr (T : TypeId)
  deriving Inhabited
def wk1 : S1 → V → V
  | .rr T own, .nil _ => .rr T own []
  | .rr T false, .rr T' o l => bif Nat.beq T T' then .rr T false l else .rr T' o l
  | .inl T, .nil _ => .inl T []
  | .inl T, .rr T' o l => bif Nat.beq T T' then .inl T l else .rr T' o l
  | _, v => v
def wkL : List S1 → List V → List V
  | s :: ss, v :: vs => wk1 s v :: wkL ss vs
  | _, vs => vs
def wkV (ss : List S1) : V → V
  | .agg cs => .agg (wkL ss cs)
  | .nb T cs => .nb T (wkL ss cs)
  | .rf T cs => .rf T (wkL ss cs)
  | .ro T off cs => .ro T off cs
  | v => match ss with
    | s :: _ => wk1 s v
    | [] => v
def wkVs : List (List S1) → List V → List V
  | s :: ss, v :: vs => wkV s v :: wkVs ss vs
  | _, vs => vs
def wkR (ss : List (List S1)) : V → V
  | .tup vs => .tup (wkVs ss vs)
  | v => match ss with
    | s :: _ => wkV s v
    | [] => v
def wkO (ss : List S1) : V → V
  | .rf T cs => .rf T (wkL ss cs)
  | v => v
def wkOs : List (List S1) → List V → List V
  | s :: ss, v :: vs => wkO s v :: wkOs ss vs
  | _, vs => vs
def wkF (ss os : List (List S1)) (r : V × List V) : V × List V := (wkR ss r.1, wkOs os r.2)
def ZcD (tab : Tab) : S1 → Bool
  | .rr T _ => (tab T).isSome
  | .inl T => (tab T).isSome
  | _ => true
def Weak (R : (Nat → Prop) → V → Value → List Nat → List Nat → Prop) (ok : Nat → Prop) (y : V) (v : Value) (t n : List Nat) : Prop :=
  ∃ t' n', t'.Sublist t ∧ n'.Sublist n ∧ ∀ ok' : Nat → Prop, (∀ g, ok g → ok' g) → (∀ g ∈ t ++ n, g ∉ t' → ok' g) → R ok' y v t' n'
theorem Weak.same {R : (Nat → Prop) → V → Value → List Nat → List Nat → Prop} {ok : Nat → Prop} {y : V} {v : Value} {t n : List Nat} (h : ∀ ok' : Nat → Prop, (∀ g, ok g → ok' g) → R ok' y v t n) : Weak R ok y v t n :=
  ⟨t, n, .refl _, .refl _, fun ok' h1 _ => h ok' h1⟩
theorem wk1_rq {w : World} {ok : Nat → Prop} {s : S1} (hs : ZcD tab s = true) {x : V} {v : Value} {t n : List Nat} (h : Rq1 tab w ok x v t n) (hnd : (t ++ n).Nodup) : Weak (Rq1 tab w) ok (wk1 s x) v t n := by
  have hsame : Weak (Rq1 tab w) ok x v t n := .same fun ok' h1 => h.keep h1
  unfold wk1
  split
  · rename_i T own T'
    cases h with | tree h =>
    cases h with | nil _ a =>
    obtain ⟨ty, hty⟩ := Option.isSome_iff_exists.1 (by simpa [ZcD] using hs : (tab T).isSome = true)
    refine .same fun ok' _ => ?_
    have : Rq1 tab w ok' (.rr T own []) (.slice a 0 0) (Zp (.slice a 0 0)) [] :=
      .row ⟨ty, [], hty, ⟨by simp, .inl ⟨a, rfl, rfl⟩⟩, by simp, by
        cases own
        · exact .inr ⟨rfl, rfl, by simp⟩
        · exact .inl ⟨rfl, fun _ _ => [], by simp [Zz], by simp⟩⟩
    have e : Zp (.slice a 0 0) = [] := by cases a <;> rfl
    rw [e] at this; exact this
  · rename_i T T' o l
    cases hb : Nat.beq T T' with
    | false => exact hsame
    | true =>
      obtain rfl := Nat.eq_of_beq_eq_true hb
      cases h with
      | tree h => cases h
      | row h =>
      obtain ⟨ty, xs, h1, h2, h3, h4⟩ := h
      rcases h4 with ⟨ho, F, rfl, h4⟩ | ⟨ho, rfl, h4⟩
      · refine ⟨Zp v, [], .refl _, List.nil_sublist _, fun ok' k1 k2 => .row ⟨ty, xs, h1, h2, h3, .inr ⟨rfl, rfl, fun i j hi hj => ?_⟩⟩⟩
        refine (h4 i j hi hj).tree fun g hg => ?_
        have hgn : g ∈ Zz l.length ty.kinds.length F := mem_flatF.2 ⟨i, hi, j, hj, hg⟩
        exact k2 g (List.mem_append_right _ hgn) fun hgt => (List.nodup_append.1 hnd).2.2 g hgt g hgn rfl
      · exact .same fun ok' k1 => .row ⟨ty, xs, h1, h2, h3, .inr ⟨rfl, rfl, fun i j hi hj => (h4 i j hi hj).keep k1 fun _ _ => rfl⟩⟩
  · rename_i T T'
    cases h with | tree h =>
    cases h with | nil _ a =>
    obtain ⟨ty, hty⟩ := Option.isSome_iff_exists.1 (by simpa [ZcD] using hs : (tab T).isSome = true)
    exact .same fun ok' _ => .tree (.inl T [] ty a 0 0 0 (fun _ _ => undef) hty (by simp) (by simp) (by simp) (by simp) (by simp))
  · rename_i T T' o l
    cases hb : Nat.beq T T' with
    | false => exact hsame
    | true =>
      obtain rfl := Nat.eq_of_beq_eq_true hb
      cases h with
      | tree h => cases h
      | row h =>
      exact ⟨[], [], List.nil_sublist _, List.nil_sublist _, fun ok' k1 k2 => .tree (h.tree k1 fun g hg => k2 g hg (by simp))⟩
  · exact hsame
theorem ZiD {t1 n1 t2 n2 s2 : List Nat} (hnd : ((t1 ++ t2) ++ (n1 ++ n2)).Nodup) (hs : s2.Sublist t2) {g : Nat} (hg : g ∈ t1 ++ n1) : g ∉ s2 := by
  intro h2
  have h2 := hs.mem h2
  obtain ⟨h3, h4, h5⟩ := List.nodup_append.1 hnd
  rcases List.mem_append.1 hg with hg | hg
  · exact (List.nodup_append.1 h3).2.2 g hg g h2 rfl
  · exact h5 g (List.mem_append_right _ h2) g (List.mem_append_left _ hg) rfl
theorem ZhQ {t1 n1 t2 n2 s1 : List Nat} (hnd : ((t1 ++ t2) ++ (n1 ++ n2)).Nodup) (hs : s1.Sublist t1) {g : Nat} (hg : g ∈ t2 ++ n2) : g ∉ s1 := by
  intro h2
  have h2 := hs.mem h2
  obtain ⟨h3, h4, h5⟩ := List.nodup_append.1 hnd
  rcases List.mem_append.1 hg with hg | hg
  · exact (List.nodup_append.1 h3).2.2 g h2 g hg rfl
  · exact h5 g (List.mem_append_left _ h2) g (List.mem_append_right _ hg) rfl
theorem Zc0 {t1 n1 t2 n2 : List Nat} (hnd : ((t1 ++ t2) ++ (n1 ++ n2)).Nodup) : (t1 ++ n1).Nodup ∧ (t2 ++ n2).Nodup := by
  obtain ⟨h3, h4, h5⟩ := List.nodup_append.1 hnd
  obtain ⟨a1, a2, a3⟩ := List.nodup_append.1 h3
  obtain ⟨b1, b2, b3⟩ := List.nodup_append.1 h4
  exact ⟨List.nodup_append.2 ⟨a1, b1, fun x hx y hy => h5 x (List.mem_append_left _ hx) y (List.mem_append_left _ hy)⟩, List.nodup_append.2 ⟨a2, b2, fun x hx y hy => h5 x (List.mem_append_right _ hx) y (List.mem_append_right _ hy)⟩⟩
theorem Zhb {t1 n1 t2 n2 : List Nat} {g : Nat} (h : g ∈ t1 ++ n1) : g ∈ (t1 ++ t2) ++ (n1 ++ n2) := by
  simp only [List.mem_append] at h ⊢; rcases h with h | h <;> simp [h]
theorem Zgz {t1 n1 t2 n2 : List Nat} {g : Nat} (h : g ∈ t2 ++ n2) : g ∈ (t1 ++ t2) ++ (n1 ++ n2) := by
  simp only [List.mem_append] at h ⊢; rcases h with h | h <;> simp [h]
def WeakL (R : (Nat → Prop) → V → Value → List Nat → List Nat → Prop) (ok : Nat → Prop) (ys : List V) (vs : List Value) (t n : List Nat) : Prop :=
  ∃ t' n', t'.Sublist t ∧ n'.Sublist n ∧ ∀ ok' : Nat → Prop, (∀ g, ok g → ok' g) → (∀ g ∈ t ++ n, g ∉ t' → ok' g) → RqL (R ok') ys vs t' n'
theorem WeakL.cons {R : (Nat → Prop) → V → Value → List Nat → List Nat → Prop} {ok : Nat → Prop} {y : V} {v : Value} {t1 n1 : List Nat} {ys : List V} {vs : List Value} {t2 n2 : List Nat}
    (h1 : Weak R ok y v t1 n1) (h2 : WeakL R ok ys vs t2 n2) (hnd : ((t1 ++ t2) ++ (n1 ++ n2)).Nodup) : WeakL R ok (y :: ys) (v :: vs) (t1 ++ t2) (n1 ++ n2) := by
  obtain ⟨s1, m1, a1, a2, a3⟩ := h1
  obtain ⟨s2, m2, b1, b2, b3⟩ := h2
  refine ⟨s1 ++ s2, m1 ++ m2, a1.append b1, a2.append b2, fun ok' k1 k2 => .cons (a3 ok' k1 fun g hg hn => ?_) (b3 ok' k1 fun g hg hn => ?_)⟩
  · exact k2 g (Zhb hg) fun h => (List.mem_append.1 h).elim hn (ZiD hnd b1 hg)
  · exact k2 g (Zgz hg) fun h => (List.mem_append.1 h).elim (ZhQ hnd a1 hg) hn
theorem wkL_rq {w : World} {ok : Nat → Prop} {xs : List V} {vs : List Value} {t n : List Nat} (h : RqL (Rq1 tab w ok) xs vs t n) : ∀ {ss : List S1}, (ss.all (ZcD tab)) = true → (t ++ n).Nodup → WeakL (Rq1 tab w) ok (wkL ss xs) vs t n := by
  have hsame : ∀ {xs : List V} {vs : List Value} {t n : List Nat}, RqL (Rq1 tab w ok) xs vs t n → WeakL (Rq1 tab w) ok xs vs t n := fun {xs vs t n} h => ⟨t, n, .refl _, .refl _, fun ok' k1 _ => h.mono fun _ _ _ _ h => h.keep k1⟩
  induction h with
  | nil => intro ss _ _; cases ss <;> exact hsame .nil
  | cons h1 h2 ih =>
    intro ss hss hnd
    cases ss with
    | nil => exact hsame (.cons h1 h2)
    | cons s ss =>
      simp only [List.all_cons, Bool.and_eq_true] at hss
      exact .cons (wk1_rq hss.1 h1 (Zc0 hnd).1) (ih hss.2 (Zc0 hnd).2) hnd
theorem ZmZ {w : World} {ok : Nat → Prop} {ss : List S1} (hs : ss.all (ZcD tab) = true) {x : V} {v : Value} {t n : List Nat} (h : Rq2 tab w ok x v t n) (hnd : (t ++ n).Nodup) : Weak (Rq2 tab w) ok (wkV ss x) v t n := by
  have hone : ∀ {x : V} {v : Value} {t n : List Nat}, (∀ cs, x ≠ .agg cs) → (∀ T cs, x ≠ .nb T cs) → (∀ T cs, x ≠ .rf T cs) → (∀ T o cs, x ≠ .ro T o cs) → Rq1 tab w ok x v t n → (t ++ n).Nodup → Weak (Rq2 tab w) ok (wkV ss x) v t n := by
    intro x v t n e1 e2 e3 e4 h hnd
    cases ss with
    | nil =>
      have : wkV [] x = x := by cases x <;> first | rfl | exact absurd rfl (e1 _) | exact absurd rfl (e2 _ _) | exact absurd rfl (e3 _ _) | exact absurd rfl (e4 _ _ _)
      rw [this]
      exact .same fun ok' k1 => .one (h.keep k1)
    | cons s ss =>
      have : wkV (s :: ss) x = wk1 s x := by cases x <;> first | rfl | exact absurd rfl (e1 _) | exact absurd rfl (e2 _ _) | exact absurd rfl (e3 _ _) | exact absurd rfl (e4 _ _ _)
      rw [this]
      simp only [List.all_cons, Bool.and_eq_true] at hs
      obtain ⟨t', n', a1, a2, a3⟩ := wk1_rq hs.1 h hnd
      exact ⟨t', n', a1, a2, fun ok' k1 k2 => .one (a3 ok' k1 k2)⟩
  have hagg : ∀ {cs : List V} {vs : List Value} {t n : List Nat}, RqL (Rq1 tab w ok) cs vs t n → (t ++ n).Nodup → Weak (Rq2 tab w) ok (.agg (wkL ss cs)) (.agg vs.toArray) t n := fun h hnd => by
    obtain ⟨t', n', a1, a2, a3⟩ := wkL_rq h hs hnd
    exact ⟨t', n', a1, a2, fun ok' k1 k2 => .agg (a3 ok' k1 k2)⟩
  have hbox : ∀ {g : Nat} {cs : List V} {c : Array Value} {t n : List Nat}, RqL (Rq1 tab w ok) cs c.toList t n → (g :: t ++ n).Nodup →
      ∃ t' n', (g :: t').Sublist (g :: t) ∧ n'.Sublist n ∧ ∀ ok' : Nat → Prop, (∀ g, ok g → ok' g) → (∀ x ∈ g :: t ++ n, x ∉ g :: t' → ok' x) → RqL (Rq1 tab w ok') (wkL ss cs) c.toList t' n' := by
    intro g cs c t n h hnd
    have hnd' : g ∉ t ++ n ∧ (t ++ n).Nodup := by simpa [List.nodup_cons] using hnd
    obtain ⟨t', n', a1, a2, a3⟩ := wkL_rq h hs hnd'.2
    refine ⟨t', n', a1.cons_cons g, a2, fun ok' k1 k2 => a3 ok' k1 fun x hx hn => k2 x (by simpa using Or.inr hx) ?_⟩
    intro hm
    rcases List.mem_cons.1 hm with rfl | hm
    · exact hnd'.1 hx
    · exact hn hm
  cases h with
  | agg h => exact hagg h hnd
  | nb h hg =>
    obtain ⟨t', n', a1, a2, a3⟩ := hbox h hnd
    exact ⟨_, n', a1, a2, fun ok' k1 k2 => .nb (a3 ok' k1 k2) hg⟩
  | rf h hg =>
    obtain ⟨t', n', a1, a2, a3⟩ := hbox h hnd
    exact ⟨_, n', a1, a2, fun ok' k1 k2 => .rf (a3 ok' k1 k2) hg⟩
  | ro h hg => exact .same fun ok' k1 => .ro (h.mono fun _ _ _ _ h => h.keep k1) hg
  | one h =>
    cases h with
    | row h => exact hone (by simp) (by simp) (by simp) (by simp) (.row h) hnd
    | deep h => exact hone (by simp) (by simp) (by simp) (by simp) (.deep h) hnd
    | tree h =>
      by_cases ha : ∃ cs, x = .agg cs
      · obtain ⟨cs, rfl⟩ := ha
        cases h with | agg _ vals hl h => exact hagg (.of_trees hl h) hnd
      · exact hone (fun cs e => ha ⟨cs, e⟩) (fun T cs e => by subst e; cases h) (fun T cs e => by subst e; cases h) (fun T o cs e => by subst e; cases h) (.tree h) hnd
theorem wkVs_rq {w : World} {ok : Nat → Prop} {xs : List V} {vs : List Value} {t n : List Nat} (h : RqL (Rq2 tab w ok) xs vs t n) : ∀ {ss : List (List S1)}, (ss.all fun s => s.all (ZcD tab)) = true → (t ++ n).Nodup → WeakL (Rq2 tab w) ok (wkVs ss xs) vs t n := by
  have hsame : ∀ {xs : List V} {vs : List Value} {t n : List Nat}, RqL (Rq2 tab w ok) xs vs t n → WeakL (Rq2 tab w) ok xs vs t n := fun {xs vs t n} h => ⟨t, n, .refl _, .refl _, fun ok' k1 _ => h.mono fun _ _ _ _ h => h.keep k1⟩
  induction h with
  | nil => intro ss _ _; cases ss <;> exact hsame .nil
  | cons h1 h2 ih =>
    intro ss hss hnd
    cases ss with
    | nil => exact hsame (.cons h1 h2)
    | cons s ss =>
      simp only [List.all_cons, Bool.and_eq_true] at hss
      exact .cons (ZmZ hss.1 h1 (Zc0 hnd).1) (ih hss.2 (Zc0 hnd).2) hnd
theorem wkR_rq {w : World} {ok : Nat → Prop} {ss : List (List S1)} (hs : (ss.all fun s => s.all (ZcD tab)) = true) {x : V} {v : Value} {t n : List Nat} (h : Rq3 tab w ok x v t n) (hnd : (t ++ n).Nodup) : Weak (Rq3 tab w) ok (wkR ss x) v t n := by
  cases h with
  | tup h =>
    obtain ⟨t', n', a1, a2, a3⟩ := wkVs_rq h hs hnd
    exact ⟨t', n', a1, a2, fun ok' k1 k2 => .tup (a3 ok' k1 k2)⟩
  | one h =>
    have hnt : ∀ vs, x ≠ .tup vs := by
      intro vs e
      subst e
      cases h with | one h => cases h with | tree h => cases h
    cases ss with
    | nil =>
      have : wkR [] x = x := by cases x <;> first | rfl | exact absurd rfl (hnt _)
      rw [this]
      exact .same fun ok' k1 => .one (h.keep k1)
    | cons s ss =>
      have : wkR (s :: ss) x = wkV s x := by cases x <;> first | rfl | exact absurd rfl (hnt _)
      rw [this]
      simp only [List.all_cons, Bool.and_eq_true] at hs
      obtain ⟨t', n', a1, a2, a3⟩ := ZmZ hs.1 h hnd
      exact ⟨t', n', a1, a2, fun ok' k1 k2 => .one (a3 ok' k1 k2)⟩
theorem wkO_rq {w : World} {ok : Nat → Prop} {ss : List S1} (hs : ss.all (ZcD tab) = true) {x : V} {v : Value} {t n : List Nat} (h : Rq2 tab w ok x v t n) (hnd : (t ++ n).Nodup) : Weak (Rq2 tab w) ok (wkO ss x) v t n := by
  have hV := ZmZ hs h hnd
  have hS : Weak (Rq2 tab w) ok x v t n := .same fun ok' k1 => h.keep k1
  cases x <;> first | exact hV | exact hS
theorem outOk_wk {p y : V} {s : List S1} (hp : outOk p y) : outOk p (wkO s y) := by
  cases y <;> first | exact hp | (cases p <;> first | exact hp | exact hp.elim)
def WeakO (R : (Nat → Prop) → V → Value → List Nat → List Nat → Prop) (ok : Nat → Prop) (ps : List (V × Value)) (ys : List V) (t n : List Nat) : Prop :=
  ∃ t' n', t'.Sublist t ∧ n'.Sublist n ∧ ∀ ok' : Nat → Prop, (∀ g, ok g → ok' g) → (∀ g ∈ t ++ n, g ∉ t' → ok' g) → OutL (R ok') ps ys t' n'
theorem wkOs_rq {w : World} {ok : Nat → Prop} {ps : List (V × Value)} {xs : List V} {t n : List Nat} (h : OutL (Rq2 tab w ok) ps xs t n) : ∀ {ss : List (List S1)}, (ss.all fun s => s.all (ZcD tab)) = true → (t ++ n).Nodup → WeakO (Rq2 tab w) ok ps (wkOs ss xs) t n := by
  have hsame : ∀ {ps : List (V × Value)} {xs : List V} {t n : List Nat}, OutL (Rq2 tab w ok) ps xs t n → WeakO (Rq2 tab w) ok ps xs t n := fun {ps xs t n} h => ⟨t, n, .refl _, .refl _, fun ok' k1 _ => h.mono fun _ _ _ _ _ h => h.keep k1⟩
  induction h with
  | nil => intro ss _ _; cases ss <;> exact hsame .nil
  | cons h0 h1 h2 ih =>
    intro ss hss hnd
    cases ss with
    | nil => exact hsame (.cons h0 h1 h2)
    | cons s ss =>
      simp only [List.all_cons, Bool.and_eq_true] at hss
      obtain ⟨s1, m1, a1, a2, a3⟩ := wkO_rq hss.1 h1 (Zc0 hnd).1
      obtain ⟨s2, m2, b1, b2, b3⟩ := ih hss.2 (Zc0 hnd).2
      refine ⟨s1 ++ s2, m1 ++ m2, a1.append b1, a2.append b2, fun ok' k1 k2 => .cons (outOk_wk h0) (a3 ok' k1 fun g hg hn => ?_) (b3 ok' k1 fun g hg hn => ?_)⟩
      · exact k2 g (Zhb hg) fun h => (List.mem_append.1 h).elim hn (ZiD hnd b1 hg)
      · exact k2 g (Zgz hg) fun h => (List.mem_append.1 h).elim (ZhQ hnd a1 hg) hn
theorem SumOk.weaken {f : FuncId} {args : List V} {r : V × List V} (h : SumOk P tab f args r) {ss os : List (List S1)} (hs : (ss.all fun s => s.all (ZcD tab)) = true) (ho : (os.all fun s => s.all (ZcD tab)) = true) :
    SumOk P tab f args (wkF ss os r) := by
  intro w ok vals t n hr hnd hok hlt
  refine Calls.mono (h w ok vals t n hr hnd hok hlt) ?_
  rintro e w' ⟨val, rfl, rt, rn, ot, on, r1, r2, h1, h2, h3, h4, h5⟩
  refine ⟨val, rfl, ?_⟩
  obtain ⟨ho1, hr1⟩ := Zc0 h1
  obtain ⟨rt', rn', a1, a2, a3⟩ := wkR_rq hs r1 hr1
  obtain ⟨ot', on', b1, b2, b3⟩ := wkOs_rq r2 ho ho1
  have hT : (ot' ++ rt').Sublist (ot ++ rt) := b1.append a1
  have hN : (on' ++ rn').Sublist (on ++ rn) := b2.append a2
  have base : ∀ g, g ∈ (ot ++ rt) ++ (on ++ rn) → (ok g ∨ g ∈ t ++ n ∨ w.heap.size ≤ g) ∧ g < w'.heap.size := fun g hg => by
    refine ⟨?_, h4 g hg⟩
    rcases List.mem_append.1 hg with hg | hg
    · rcases h2 g hg with h | h
      · exact .inr (.inl (List.mem_append_left _ h))
      · exact .inr (.inr h)
    · exact .inr (h3 g hg)
  have k1 : ∀ g, ((ok g ∨ g ∈ t ++ n ∨ w.heap.size ≤ g) ∧ g < w'.heap.size ∧ g ∉ ot ++ rt) → (ok g ∨ g ∈ t ++ n ∨ w.heap.size ≤ g) ∧ g < w'.heap.size ∧ g ∉ ot' ++ rt' := fun g hg => ⟨hg.1, hg.2.1, fun hh => hg.2.2 (hT.mem hh)⟩
  refine ⟨rt', rn', ot', on', a3 _ k1 fun g hg hn => ?_, b3 _ k1 fun g hg hn => ?_, (hT.append hN).nodup h1, fun g hg => h2 g (hT.mem hg), fun g hg => h3 g (hN.mem hg), fun g hg => h4 g ((hT.append hN).mem hg), h5⟩
  · have hb := base g (Zgz hg)
    exact ⟨hb.1, hb.2, fun hh => (List.mem_append.1 hh).elim (ZhQ h1 b1 hg) hn⟩
  · have hb := base g (Zhb hg)
    exact ⟨hb.1, hb.2, fun hh => (List.mem_append.1 hh).elim hn (ZiD h1 a1 hg)⟩
end
end Go.Eng
namespace Go.Eng
def gi (x : V) (j : Nat) : Int := (x.cell j).I
def gb (x : V) (j : Nat) : Bool := (x.cell j).B
def gl (x : V) (j : Nat) : List V := (x.cell j).L
def gs (x : V) (j : Nat) : List V := (x.cell j).S
def rd (l : List V) (i : Nat) : V := l.getD i .dead
def bAnd (k : IntKind) (a b : Int) : Int := k.wrap ((BitVec.ofInt k.bits a &&& BitVec.ofInt k.bits b).toNat : Int)
def bXor (k : IntKind) (a b : Int) : Int := k.wrap ((BitVec.ofInt k.bits a ^^^ BitVec.ofInt k.bits b).toNat : Int)
def ZeQ (k : IntKind) (a b : Int) : Int := a.fdiv (2 ^ (min b.toNat k.bits))
def V.off : V → Nat | .sl _ _ o _ => o | _ => 0
def V.slen : V → Nat | .sl _ _ _ (some n) => n | _ => 0
def V.idx : V → Nat | .rp _ i _ => i | _ => 0
def V.caps : V → List V | .fn _ cs => cs | _ => []
def V.toInl : V → V
  | .rr T _ l => .inl T l
  | .dr T l => .inl T l
  | v => v
def V.unbox : V → V
  | .rf _ cs => .agg (cs.map V.toInl)
  | .ro _ _ cs => .agg (cs.map V.toInl)
  | .nb _ cs => .agg (cs.map V.toInl)
  | .ep cs _ => .agg cs
  | v => v
def S1.ok : S1 → V → Bool
  | .int k, .int k' _ => decide (k' = k)
  | .bool, .bool _ => true
  | .str, .str _ => true
  | .inl T, .inl T' _ => Nat.beq T T'
  | .rr T o, .rr T' o' _ => Nat.beq T T' && (o == o')
  | .nil T, .nil T' => Nat.beq T T'
  | .sl id T, .sl id' T' 0 none => Nat.beq id id' && Nat.beq T T'
  | .slo id T, .sl id' T' _ none => Nat.beq id id' && Nat.beq T T'
  | .sll id T, .sl id' T' _ (some _) => Nat.beq id id' && Nat.beq T T'
  | .bp id off, .bp id' off' => Nat.beq id id' && Nat.beq off off'
  | .rp id off, .rp id' _ off' => Nat.beq id id' && Nat.beq off off'
  | .dead, .dead => true
  | .dr T, .dr T' _ => Nat.beq T T'
  | _, _ => false
def S1.mk : S1 → V → V
  | .int k, x => .int k x.I
  | .bool, x => .bool x.B
  | .str, x => .str x.S
  | .inl T, x => .inl T x.L
  | .rr T o, x => .rr T o x.L
  | .nil T, _ => .nil T
  | .sl id T, _ => .sl id T 0 none
  | .slo id T, x => .sl id T x.off none
  | .sll id T, x => .sl id T x.off (some x.slen)
  | .bp id off, _ => .bp id off
  | .rp id off, x => .rp id x.idx off
  | .dead, _ => .dead
  | .dr T, x => .dr T x.L
theorem Zdq {a b : Nat} (h : Nat.beq a b = true) : a = b := Nat.eq_of_beq_eq_true h
theorem S1.mk_ok {s : S1} {x : V} (h : s.ok x = true) : s.mk x = x := by
  unfold S1.ok at h
  split at h <;> (try simp only [Bool.and_eq_true, decide_eq_true_eq, beq_iff_eq] at h) <;> (try simp only [S1.mk])
  all_goals first
    | rfl
    | (subst h; rfl)
    | (obtain rfl := Zdq h; rfl)
    | (obtain ⟨h1, h2⟩ := h; obtain rfl := Zdq h1; obtain rfl := Zdq h2; rfl)
    | (obtain ⟨h1, h2⟩ := h; obtain rfl := Zdq h1; subst h2; rfl)
    | (cases h)
def okL : List S1 → List V → Bool
  | [], [] => true
  | s :: ss, v :: vs => s.ok v && okL ss vs
  | _, _ => false
def mkC : List S1 → V → Nat → List V
  | [], _, _ => []
  | s :: ss, x, j => s.mk (x.cell j) :: mkC ss x (j + 1)
theorem mkC_ok : ∀ {ss : List S1} {vs pre : List V}, okL ss vs = true → mkC ss (.agg (pre ++ vs)) pre.length = vs
  | [], [], _, _ => rfl
  | s :: ss, v :: vs, pre, h => by
    simp only [okL, Bool.and_eq_true] at h
    have ih := mkC_ok (ss := ss) (vs := vs) (pre := pre ++ [v]) h.2
    simp only [List.append_assoc, List.singleton_append, List.length_append, List.length_cons, List.length_nil, Nat.zero_add] at ih
    simp only [mkC]
    rw [ih]
    congr 1
    have : V.cell (.agg (pre ++ v :: vs)) pre.length = v := by simp [V.cell, V.cells]
    rw [this]; exact S1.mk_ok h.1
  | [], _ :: _, _, h => by cases h
  | _ :: _, [], _, h => by cases h
theorem S1.mk_inl {s : S1} {x : V} (h : s.ok x = true) : s.mk x.toInl = x := by
  have h0 := S1.mk_ok h
  cases x <;> first
    | exact h0
    | (cases s <;> first | (cases h; done) | exact h0)
theorem cell_map {f : V → V} (hf : f .dead = .dead) (vs : List V) (j : Nat) : V.cell (.agg (vs.map f)) j = f (V.cell (.agg vs) j) := by
  simp only [V.cell, V.cells]; exact Zgw hf vs j
theorem Zoo : ∀ {ss : List S1} {vs pre : List V}, okL ss vs = true → mkC ss (.agg ((pre ++ vs).map V.toInl)) pre.length = vs
  | [], [], _, _ => rfl
  | s :: ss, v :: vs, pre, h => by
    simp only [okL, Bool.and_eq_true] at h
    have ih := Zoo (ss := ss) (vs := vs) (pre := pre ++ [v]) h.2
    simp only [List.append_assoc, List.singleton_append, List.length_append, List.length_cons, List.length_nil, Nat.zero_add] at ih
    simp only [mkC]
    rw [ih, cell_map rfl]
    congr 1
    have : V.cell (.agg (pre ++ v :: vs)) pre.length = v := by simp [V.cell, V.cells]
    rw [this]; exact S1.mk_inl h.1
  | [], _ :: _, _, h => by cases h
  | _ :: _, [], _, h => by cases h
theorem Zm0 {ss : List S1} {vs : List V} (h : okL ss vs = true) : mkC ss (.agg (vs.map V.toInl)) 0 = vs := Zoo (pre := []) h
theorem Zho {ss : List S1} {vs : List V} (h : okL ss vs = true) : mkC ss (.agg vs) 0 = vs := mkC_ok (pre := []) h
inductive S2 where
  | one (s : S1) | agg (l : List S1) | rf (T : TypeId) (l : List S1) | ro (T : TypeId) (off : Nat) (l : List S1) | ep (l : List S1) (off : Nat) | fn (f : FuncId) (l : List (List S1)) | tup (l : List S1)
  deriving Inhabited
def ZkO : List (List S1) → List V → Bool
  | [], [] => true
  | s :: ss, .ep cs 0 :: vs => okL s cs && ZkO ss vs
  | _, _ => false
def ZkP : List (List S1) → List V → Nat → List V
  | [], _, _ => []
  | s :: ss, vs, j => .ep (mkC s (rd vs j).unbox 0) 0 :: ZkP ss vs (j + 1)
theorem ZlQ : ∀ {ss : List (List S1)} {vs pre : List V}, ZkO ss vs = true → ZkP ss (pre ++ vs) pre.length = vs
  | [], [], _, _ => rfl
  | s :: ss, v :: vs, pre, h => by
    unfold ZkO at h
    split at h
    · rename_i he; cases he
    · rename_i s' ss' cs vs' h1 h2
      cases h1; cases h2
      simp only [Bool.and_eq_true] at h
      have ih := ZlQ (ss := ss) (vs := vs) (pre := pre ++ [.ep cs 0]) h.2
      simp only [List.append_assoc, List.singleton_append, List.length_append, List.length_cons, List.length_nil, Nat.zero_add] at ih
      simp only [ZkP]
      rw [ih]
      congr 1
      have : rd (pre ++ V.ep cs 0 :: vs) pre.length = .ep cs 0 := by simp [rd]
      rw [this]
      simp only [V.unbox]
      rw [Zho h.1]
    · cases h
  | [], _ :: _, _, h => by cases h
  | _ :: _, [], _, h => by cases h
def S2.ok : S2 → V → Bool
  | .one s, x => s.ok x
  | .agg l, .agg cs => okL l cs
  | .rf T l, .rf T' cs => Nat.beq T T' && okL l cs
  | .ro T o l, .ro T' o' cs => Nat.beq T T' && (Nat.beq o o' && okL l cs)
  | .ep l off, .ep cs off' => Nat.beq off off' && okL l cs
  | .fn f l, .fn f' cs => Nat.beq f f' && ZkO l cs
  | .tup l, .tup cs => okL l cs
  | _, _ => false
def S2.mk : S2 → V → V
  | .one s, x => s.mk x
  | .agg l, x => .agg (mkC l x 0)
  | .rf T l, x => .rf T (mkC l x.unbox 0)
  | .ro T o l, x => .ro T o (mkC l x.unbox 0)
  | .ep l off, x => .ep (mkC l x.unbox 0) off
  | .fn f l, x => .fn f (ZkP l x.caps 0)
  | .tup l, x => .tup (mkC l (match x with | .tup cs => .agg cs | v => v) 0)
theorem S2.mk_ok {s : S2} {x : V} (h : s.ok x = true) : s.mk x = x := by
  unfold S2.ok at h
  split at h
  · exact S1.mk_ok h
  · simp only [S2.mk]; rw [Zho h]
  · simp only [Bool.and_eq_true] at h
    obtain rfl := Zdq h.1
    simp only [S2.mk, V.unbox]; rw [Zm0 h.2]
  · simp only [Bool.and_eq_true] at h
    obtain rfl := Zdq h.1
    obtain rfl := Zdq h.2.1
    simp only [S2.mk, V.unbox]; rw [Zm0 h.2.2]
  · simp only [Bool.and_eq_true] at h
    obtain rfl := Zdq h.1
    simp only [S2.mk, V.unbox]; rw [Zho h.2]
  · simp only [Bool.and_eq_true] at h
    obtain rfl := Zdq h.1
    have e := ZlQ (pre := []) h.2
    simp only [List.nil_append, List.length_nil] at e
    simp only [S2.mk, V.caps]; rw [e]
  · simp only [S2.mk]; rw [Zho h]
  · cases h
def Zbq : List S2 → List V → Bool
  | [], [] => true
  | s :: ss, v :: vs => s.ok v && Zbq ss vs
  | _, _ => false
def Zdy : List S2 → List V → Nat → List V
  | [], _, _ => []
  | s :: ss, vs, j => s.mk (rd vs j) :: Zdy ss vs (j + 1)
theorem Zdi : ∀ {ss : List S2} {vs pre : List V}, Zbq ss vs = true → Zdy ss (pre ++ vs) pre.length = vs
  | [], [], _, _ => rfl
  | s :: ss, v :: vs, pre, h => by
    simp only [Zbq, Bool.and_eq_true] at h
    have ih := Zdi (ss := ss) (vs := vs) (pre := pre ++ [v]) h.2
    simp only [List.append_assoc, List.singleton_append, List.length_append, List.length_cons, List.length_nil, Nat.zero_add] at ih
    simp only [Zdy]
    rw [ih]
    congr 1
    have : rd (pre ++ v :: vs) pre.length = v := by simp [rd]
    rw [this]; exact S2.mk_ok h.1
  | [], _ :: _, _, h => by cases h
  | _ :: _, [], _, h => by cases h
inductive SB where
  | box (T : TypeId) (l : List S1) | row (T : TypeId) (own : Bool) | gone | drow (T : TypeId)
  deriving Inhabited
structure SS where
  sl : List (Nat × S2)
  hp : List SB
  nid : Nat
  lent : List Nat
def sv (s : St) (j : Nat) : V := (s.sl.getD j (0, .dead)).2
def bv (s : St) (j : Nat) : Option Blk := (s.hp.getD j (0, none)).2
def bcOf : Option Blk → V
  | some (.box _ cs) => .agg cs
  | _ => .dead
def brOf : Option Blk → List V
  | some (.row _ _ els) => els
  | some (.drow _ els) => els
  | _ => []
def bc (s : St) (j : Nat) : V := bcOf (bv s j)
def br (s : St) (j : Nat) : List V := brOf (bv s j)
def okSl : List (Nat × S2) → List (Nat × V) → Bool
  | [], [] => true
  | p :: ps, q :: qs => Nat.beq p.1 q.1 && (p.2.ok q.2 && okSl ps qs)
  | _, _ => false
def SB.ok : SB → Option Blk → Bool
  | .box T l, some (.box T' cs) => Nat.beq T T' && okL l cs
  | .row T o, some (.row T' o' _) => Nat.beq T T' && (o == o')
  | .gone, none => true
  | .drow T, some (.drow T' _) => Nat.beq T T'
  | _, _ => false
def SB.mk : SB → Option Blk → Option Blk
  | .box T l, x => some (.box T (mkC l (bcOf x) 0))
  | .row T o, x => some (.row T o (brOf x))
  | .gone, _ => none
  | .drow T, x => some (.drow T (brOf x))
theorem SB.mk_ok {s : SB} {x : Option Blk} (h : s.ok x = true) : s.mk x = x := by
  unfold SB.ok at h
  split at h
  · simp only [Bool.and_eq_true] at h
    obtain rfl := Zdq h.1
    simp only [SB.mk, bcOf]; rw [Zho h.2]
  · simp only [Bool.and_eq_true, beq_iff_eq] at h
    obtain ⟨h1, rfl⟩ := h
    obtain rfl := Zdq h1
    rfl
  · rfl
  · obtain rfl := Zdq h
    rfl
  · cases h
def okHp : Nat → List SB → List (Nat × Option Blk) → Bool
  | _, [], [] => true
  | k, b :: bs, q :: qs => Nat.beq k q.1 && (b.ok q.2 && okHp (k + 1) bs qs)
  | _, _, _ => false
def mkSl : List (Nat × S2) → St → Nat → List (Nat × V)
  | [], _, _ => []
  | p :: ps, s, j => (p.1, p.2.mk (sv s j)) :: mkSl ps s (j + 1)
def mkHp : List SB → St → Nat → List (Nat × Option Blk)
  | [], _, _ => []
  | b :: bs, s, j => (j, b.mk (bv s j)) :: mkHp bs s (j + 1)
def eqNs : List Nat → List Nat → Bool
  | [], [] => true
  | a :: x, b :: y => Nat.beq a b && eqNs x y
  | _, _ => false
theorem ZlR : ∀ {x y : List Nat}, eqNs x y = true → x = y
  | [], [], _ => rfl
  | a :: x, b :: y, h => by
    simp only [eqNs, Bool.and_eq_true] at h
    rw [Zdq h.1, ZlR h.2]
  | [], _ :: _, h => by cases h
  | _ :: _, [], h => by cases h
def SS.ok (ss : SS) (s : St) : Bool := okSl ss.sl s.sl && (okHp 0 ss.hp s.hp && (Nat.beq ss.nid s.nid && eqNs ss.lent s.lent))
def SS.mk' (ss : SS) (s : St) : St := ⟨mkSl ss.sl s 0, mkHp ss.hp s 0, ss.nid, ss.lent⟩
theorem Zop {s : St} : ∀ {ps : List (Nat × S2)} {qs pre : List (Nat × V)}, s.sl = pre ++ qs → okSl ps qs = true → mkSl ps s pre.length = qs
  | [], [], _, _, _ => rfl
  | p :: ps, q :: qs, pre, e, h => by
    simp only [okSl, Bool.and_eq_true] at h
    have ih := Zop (s := s) (ps := ps) (qs := qs) (pre := pre ++ [q]) (by simpa using e) h.2.2
    simp only [List.length_append, List.length_cons, List.length_nil, Nat.zero_add] at ih
    simp only [mkSl]
    rw [ih]
    have : sv s pre.length = q.2 := by simp [sv, e]
    rw [this, S2.mk_ok h.2.1, Zdq h.1]
  | [], _ :: _, _, _, h => by cases h
  | _ :: _, [], _, _, h => by cases h
theorem Zoq {s : St} : ∀ {bs : List SB} {qs pre : List (Nat × Option Blk)}, s.hp = pre ++ qs → okHp pre.length bs qs = true → mkHp bs s pre.length = qs
  | [], [], _, _, _ => rfl
  | b :: bs, q :: qs, pre, e, h => by
    simp only [okHp, Bool.and_eq_true] at h
    have ih := Zoq (s := s) (bs := bs) (qs := qs) (pre := pre ++ [q]) (by simpa using e) (by simpa using h.2.2)
    simp only [List.length_append, List.length_cons, List.length_nil, Nat.zero_add] at ih
    simp only [mkHp]
    rw [ih]
    have : bv s pre.length = q.2 := by simp [bv, e]
    rw [this, SB.mk_ok h.2.1, Zdq h.1]
  | [], _ :: _, _, _, h => by cases h
  | _ :: _, [], _, _, h => by cases h
theorem SS.mk_ok {ss : SS} {s : St} (h : ss.ok s = true) : ss.mk' s = s := by
  simp only [SS.ok, Bool.and_eq_true] at h
  obtain ⟨h1, h2, h3, h4⟩ := h
  simp only [SS.mk']
  have e1 := Zop (s := s) (pre := []) rfl h1
  have e2 := Zoq (s := s) (pre := []) rfl h2
  simp only [List.length_nil] at e1 e2
  rw [e1, e2, Zdq h3, ZlR h4]
def rcall {α X : Type} [Inhabited α] (F : Option α) (g : α → Option X) : Option X := bif F.isSome then g (F.getD default) else none
def Agr {α X Y : Type} (w : X → Y) (sh : α → Y) (F : Option α) (O : Option X) : Prop := ∀ r, F = some r → O.map w = some (sh r)
def Tot {α X Y : Type} (w : X → Y) (sh : α → Y) (F : α) (O : Option X) : Prop := O.map w = some (sh F)
section
variable {α β X Y : Type} {w : X → Y} {sh : α → Y}
theorem agr_none {O : Option X} : Agr w sh (none : Option α) O := fun _ h => by cases h
theorem agr_leaf {r : α} {x : X} (h : w x = sh r) : Agr w sh (some r) (some x) := fun _ e => by cases e; simp [h]
theorem agr_if {c : Bool} {a b : Option α} {A B : Option X} (h1 : Agr w sh a A) (h2 : Agr w sh b B) : Agr w sh (bif c then a else b) (bif c then A else B) := by
  cases c
  · exact h2
  · exact h1
theorem agr_call [Inhabited β] {F : Option β} {f : β → Option α} {g : β → Option X} (h : ∀ x, Agr w sh (f x) (g x)) : Agr w sh (F.bind f) (rcall F g) := by
  intro r e
  cases F with
  | none => cases e
  | some x => exact h x r e
theorem tot_leaf {r : α} {x : X} (h : w x = sh r) : Tot w sh r (some x) := by simp [Tot, h]
theorem tot_if {c : Bool} {a b : α} {A B : Option X} (h1 : Tot w sh a A) (h2 : Tot w sh b B) : Tot w sh (bif c then a else b) (bif c then A else B) := by
  cases c
  · exact h2
  · exact h1
end
def brs (x : Nat) : Nat → List (Ex × St) → Out
  | _, [] => .tst false (.leaf .ret default)
  | _, [p] => .leaf p.1 p.2
  | i, p :: ps => .br (Nat.beq x i) (.leaf p.1 p.2) (brs x (i + 1) ps)
def pick (x : Nat) : Nat → List (Ex × St) → Ex × St
  | _, [] => (.ret, default)
  | _, [p] => p
  | i, p :: ps => bif Nat.beq x i then p else pick x (i + 1) ps
theorem Zor {x : Nat} : ∀ {i : Nat} {ps : List (Ex × St)} {r : Ex × St}, (brs x i ps).get = some r → pick x i ps = r
  | _, [], _, h => by cases h
  | _, [p], _, h => by simpa [brs, Out.get, pick] using h
  | i, p :: q :: ps, r, h => by
    simp only [brs, Out.get, pick] at h ⊢
    cases hb : Nat.beq x i with
    | true => rw [hb] at h; simpa using h
    | false => rw [hb] at h; exact Zor (i := i + 1) (ps := q :: ps) h
section
variable {P : Program}
theorem Base.sum {cfg : Cfg} (hB : Base P cfg.tab) (hS : Zbh P cfg.tab cfg.sums) {f : FuncId} {fn : Func} (hf : P.funcs[f]? = some fn) (hok : fnOk fn = true) {L : Loops} (hL : ZI cfg L (ZY fn)) (A : List S2) (hlen : Nat.ble A.length fn.ntmps = true)
    {α : Type} [Inhabited α] {F : List V → Option α} {shr : α → V × List V} (ws os : List (List S1)) (hw : ((ws.all fun s => s.all (ZcD cfg.tab)) && (os.all fun s => s.all (ZcD cfg.tab))) = true)
    (E : ∀ args, Zdy A args 0 = args → Agr (wkF ws os) shr (F args) (Zes cfg L fn args)) :
    ∀ args r, (bif Zbq A args then some ((F args).isSome, shr ((F args).getD default)) else none) = some (true, r) → SumOk P cfg.tab f args r := by
  intro args r h
  cases hs : Zbq A args with
  | false => rw [hs] at h; cases h
  | true =>
    rw [hs] at h
    simp only [cond_true, Option.some.injEq, Prod.mk.injEq] at h
    obtain ⟨h1, h2⟩ := h
    obtain ⟨x, hx⟩ := Option.isSome_iff_exists.1 h1
    rw [hx] at h2
    have := E args (Zdi (pre := []) hs) x hx
    obtain ⟨r0, h3, h4⟩ := Option.map_eq_some_iff.1 this
    simp only [Bool.and_eq_true] at hw
    have hl : args.length = A.length := by
      clear h1 h2 hx this h3 h4 E hf hok hlen
      induction A generalizing args with
      | nil => cases args with
        | nil => rfl
        | cons _ _ => cases hs
      | cons a A ih =>
        cases args with
        | nil => cases hs
        | cons v vs =>
          simp only [Zbq, Bool.and_eq_true] at hs
          simp [ih vs hs.2]
    have := (hB.fn hS hf hok hL (args := args) (by rw [hl]; exact hlen) h3).weaken hw.1 hw.2
    rw [h4] at this
    rw [← h2]; exact this
theorem Base.sumT {cfg : Cfg} (hB : Base P cfg.tab) (hS : Zbh P cfg.tab cfg.sums) {f : FuncId} {fn : Func} (hf : P.funcs[f]? = some fn) (hok : fnOk fn = true) {L : Loops} (hL : ZI cfg L (ZY fn)) (A : List S2) (hlen : Nat.ble A.length fn.ntmps = true)
    {α : Type} {F : List V → α} {shr : α → V × List V} (ws os : List (List S1)) (hw : ((ws.all fun s => s.all (ZcD cfg.tab)) && (os.all fun s => s.all (ZcD cfg.tab))) = true)
    (E : ∀ args, Zdy A args 0 = args → Tot (wkF ws os) shr (F args) (Zes cfg L fn args)) :
    ∀ args r, (bif Zbq A args then some (true, shr (F args)) else none) = some (true, r) → SumOk P cfg.tab f args r := by
  intro args r h
  cases hs : Zbq A args with
  | false => rw [hs] at h; cases h
  | true =>
    rw [hs] at h
    simp only [cond_true, Option.some.injEq, Prod.mk.injEq, true_and] at h
    obtain ⟨r0, h3, h4⟩ := Option.map_eq_some_iff.1 (E args (Zdi (pre := []) hs))
    simp only [Bool.and_eq_true] at hw
    have hl : args.length = A.length := by
      clear h h3 h4 E hf hok hlen
      induction A generalizing args with
      | nil => cases args with
        | nil => rfl
        | cons _ _ => cases hs
      | cons a A ih =>
        cases args with
        | nil => cases hs
        | cons v vs =>
          simp only [Zbq, Bool.and_eq_true] at hs
          simp [ih vs hs.2]
    have := (hB.fn hS hf hok hL (args := args) (by rw [hl]; exact hlen) h3).weaken hw.1 hw.2
    rw [h4] at this
    rw [← h]; exact this
end
end Go.Eng
namespace Go.Eng
def mxI (a b : Int) : Int := if a < b then b else a
structure LE where
  key : Nat
  ss : SS
  o : St → Out
def Zbw : List LE → Nat → St → Option Out
  | [], _, _ => none
  | e :: r, key, st => bif Nat.beq key e.key && e.ss.ok st then some (e.o st) else Zbw r key st
def Good (cfg : Cfg) (L : Loops) (a : Code) (e : LE) : Prop := ∀ st, e.ss.mk' st = st → ∀ r, (e.o st).get = some r → ∃ n, ZM cfg L a n st = some r
theorem Zos {cfg : Cfg} {L : Loops} {body : Code} {key : Nat} {ss : SS} {α : Type} [Inhabited α] {F : St → Option α} (fuel : St → Nat) {ix : α → Nat} {ps : α → List (Ex × St)}
    (H : ∀ st, ss.mk' st = st → Agr id (fun r => pick (ix r) 0 (ps r)) (F st) (ZM cfg L body (fuel st) st)) :
    Good cfg L body ⟨key, ss, fun s => Out.tst (F s).isSome (brs (ix ((F s).getD default)) 0 (ps ((F s).getD default)))⟩ := by
  intro s hs r h2
  cases hF : F s with
  | none =>
    simp only [hF] at h2
    cases h2
  | some x =>
    simp only [hF] at h2
    have h2 : (brs (ix x) 0 (ps x)).get = some r := h2
    have := H s hs x hF
    rw [Option.map_id, id] at this
    have e := Zor h2
    exact ⟨fuel s, by rw [this]; dsimp only; rw [e]⟩
def Zm1 (bodies : List Code) (key i : Nat) : Bool := (List.range bodies.length).all fun j => Nat.beq j i || !(Nat.beq (Zbl (bodies.getD j .skip)) key)
theorem ZpQ {bodies : List Code} {key i : Nat} (h : Zm1 bodies key i = true) {Q : Code → Prop} (hq : Q (bodies.getD i .skip)) : ∀ a ∈ bodies, Zbl a = key → Q a := by
  intro a ha hk
  obtain ⟨j, hj, rfl⟩ := List.getElem_of_mem ha
  unfold Zm1 at h
  rw [List.all_eq_true] at h
  have := h j (List.mem_range.2 hj)
  have e : bodies.getD j .skip = bodies[j] := by simp [List.getD, hj]
  rw [e, hk] at this
  simp only [Bool.or_eq_true, Bool.not_eq_true'] at this
  rcases this with h1 | h1
  · obtain rfl := Zdq h1
    rw [e] at hq; exact hq
  · rw [show Nat.beq key key = true from Nat.beq_refl key] at h1; cases h1
inductive GoodAll (cfg : Cfg) (L : Loops) (bodies : List Code) : List LE → Prop where
  | nil : GoodAll cfg L bodies []
  | cons {e : LE} {r : List LE} (i : Nat) : Zm1 bodies e.key i = true → Good cfg L (bodies.getD i .skip) e → GoodAll cfg L bodies r → GoodAll cfg L bodies (e :: r)
theorem GoodAll.ok {cfg : Cfg} {L : Loops} {fn : Func} {l : List LE} (h : GoodAll cfg L (ZcJ (ZY fn)) l) (hr : L.run = Zbw l) : ZI cfg L (ZY fn) := by
  refine Zdp _ fun a ha s o r h1 h2 => ?_
  rw [hr] at h1
  clear hr
  generalize hb : ZcJ (ZY fn) = bodies at h ha
  clear hb
  induction h with
  | nil => cases h1
  | @cons e rest i hu hg _ ih =>
    simp only [Zbw] at h1
    cases hc : (Nat.beq (Zbl a) e.key && e.ss.ok s) with
    | false => rw [hc] at h1; exact ih h1
    | true =>
      rw [hc] at h1
      simp only [Bool.and_eq_true] at hc
      simp only [cond_true, Option.some.injEq] at h1
      subst h1
      exact ZpQ hu (Q := fun a => Good cfg L a e) hg a ha (Zdq hc.1) s (SS.mk_ok hc.2) r h2
section
variable {P : Program} {tab : Tab}
theorem ZiE {f : FuncId} {T : TypeId} {l : List V} {r : V × List V} (h1 : SumOk P tab f [.nn T l] r) (h2 : l = [] → SumOk P tab f [.nl T] r) : SumOk P tab f [.inl T l] r := by
  intro w ok vals t n hr hnd hok hlt
  cases hr with | @cons _ v t1 n1 _ vs ts ns hx hxs =>
  cases hxs
  have hv : Rp tab w ok (.inl T l) v ∧ t1 = [] ∧ n1 = [] := by
    cases hx with | one hx => cases hx with | tree hx => exact ⟨hx, rfl, rfl⟩
  obtain ⟨hv, rfl, rfl⟩ := hv
  have hlent : Zbo [V.inl T l] [v] = [] := by simp [Zbo, Zb3]
  cases hv with | inl _ _ ty a cap g off cv q1 q2 q3 q4 q5 q6 =>
  cases a with
  | some a =>
    have hr' : RqL (Rq2 tab w ok) [.nn T l] [.slice (some a) l.length cap] ([] ++ []) ([] ++ []) := .cons (.one (.tree (.nn T l a _ cap (.inl T l ty (some a) cap g off cv q1 q2 q3 q4 q5 q6)))) .nil
    exact h1 w ok _ _ _ hr' hnd hok hlt
  | none =>
    have hl : l = [] := by
      rcases l with _ | ⟨x, l⟩
      · rfl
      · have := (q3 (by simp)).1; cases this
    subst hl
    have hr' : RqL (Rq2 tab w ok) [.nl T] [.slice none ([] : List V).length cap] ([] ++ []) ([] ++ []) := .cons (.one (.tree (.nl T ty cap q1))) .nil
    exact h2 rfl w ok _ _ _ hr' hnd hok hlt
theorem Base.sumNil {cfg : Cfg} (hB : Base P cfg.tab) (hS : Zbh P cfg.tab cfg.sums) {f : FuncId} {fn : Func} (hf : P.funcs[f]? = some fn) (hok : fnOk fn = true) {L : Loops} (hL : ZI cfg L (ZY fn)) (T : TypeId) (hlen : Nat.ble 1 fn.ntmps = true)
    {α : Type} [Inhabited α] {F : List V → Option α} {shr : α → V × List V} (ws os : List (List S1)) (hw : ((ws.all fun s => s.all (ZcD cfg.tab)) && (os.all fun s => s.all (ZcD cfg.tab))) = true)
    (E1 : ∀ l, Agr (wkF ws os) shr (F l) (Zes cfg L fn [.nn T l])) (E2 : Agr (wkF ws os) shr (F []) (Zes cfg L fn [.nl T])) :
    ∀ args r, (bif Zbq [.one (.inl T)] args then some ((F (rd args 0).L).isSome, shr ((F (rd args 0).L).getD default)) else none) = some (true, r) → SumOk P cfg.tab f args r := by
  intro args r h
  cases hs : Zbq [.one (.inl T)] args with
  | false => rw [hs] at h; cases h
  | true =>
    rw [hs] at h
    simp only [cond_true, Option.some.injEq, Prod.mk.injEq] at h
    obtain ⟨h1, h2⟩ := h
    obtain ⟨x, hx⟩ := Option.isSome_iff_exists.1 h1
    rw [hx] at h2
    have ha := Zdi (pre := []) hs
    simp only [List.nil_append, List.length_nil, Zdy, S2.mk, S1.mk] at ha
    simp only [Bool.and_eq_true] at hw
    rw [← ha]
    have key : ∀ v, Agr (wkF ws os) shr (F (rd args 0).L) (Zes cfg L fn [v]) → SumOk P cfg.tab f [v] r := fun v hE => by
      obtain ⟨r0, h3, h4⟩ := Option.map_eq_some_iff.1 (hE x hx)
      have := (hB.fn hS hf hok hL (args := [v]) hlen h3).weaken hw.1 hw.2
      rw [h4] at this
      rw [← h2]; exact this
    exact ZiE (key _ (E1 _)) fun e => key _ (by rw [e]; exact E2)
end
end Go.Eng
namespace Go.Eng
open RM
noncomputable section
def gEls (e : TypeId) : V → RM (List V × List Nat)
  | .nil _ => ret ([], [])
  | .sl id _ off len => match off, len with
    | 0, none => bind (get id) fun b => match b with
      | .grow T cs => test (decide (T = e)) (ret (cs, [id]))
      | _ => fail
    | _, _ => fail
  | _ => fail
def appendG (tab : Tab) (t t2 : TypeId) (nid : Nat) (s x : V) : RM Eff :=
  bind (lift ((tab t).bind (·.elem))) fun e => bind (lift (tab e)) fun ty =>
  bind (gEls e s) fun a => bind (gEls e x) fun b =>
  test (decide (ty.kinds.length = 1) && (b.1.all V.one && (isSeq tab t2 && (Zw (a.1.length + b.1.length) ty.bytes && ZbR (a.2 ++ b.2)))))
    (ret ⟨.sl nid e 0 none, ended (a.2 ++ b.2) ++ [(nid, some (.grow e (a.1 ++ b.1)))]⟩)
def buildG (tab : Tab) (t : TypeId) (nid : Nat) (x : V) : RM Eff :=
  bind (lift ((tab t).bind (·.elem))) fun e => bind (lift (tab e)) fun ty =>
  test (decide (ty.kinds.length = 1) && x.one) (ret ⟨.sl nid e 0 none, [(nid, some (.grow e [x]))]⟩)
def ZfL (tab : Tab) (t : TypeId) : Bool := match (tab t).bind (·.elem) with
  | some e => match tab e with
    | some ⟨[.ptr], false, _, _, _⟩ => true
    | _ => false
  | none => false
abbrev Fns := FuncId → Option Func
abbrev RunC := Code → St → Option (Ex × St)
def rmG (o : Oper) (s : St) (m : RM Eff) : Option (St × Rec) := match m.run s.heap with
  | some (E, log, c) => Zgr c (some (s.app o.dst E, ⟨log, E.upd.map (·.1), false⟩))
  | none => none
def Zf6 (ks : List Nat) : V → Bool
  | .sl id _ _ _ => ks.contains id
  | .bp id _ => ks.contains id
  | .rp id _ _ => ks.contains id
  | .agg _ => false
  | .tup _ => false
  | .fn _ _ => false
  | _ => true
def okI (ks : List Nat) : V → Bool
  | .agg cs => cs.all (Zf6 ks)
  | .tup cs => cs.all (Zf6 ks)
  | .fn _ cs => cs.all (Zf6 ks)
  | v => Zf6 ks v
def okBk (ks : List Nat) : Option Blk → Bool
  | some (.box _ cs) => cs.all (okI ks)
  | some (.grow _ cs) => cs.all (okI ks)
  | some (.hrow ..) => false
  | _ => true
def Zhp (hp : List (Nat × Option Blk)) (args : List V) : Bool := hp.all (fun p => okBk (hp.map (·.1)) p.2) && args.all (okI (hp.map (·.1)))
def Zdz (ks : List Nat) : Nat := List.rec 0 (fun k _ ih => Nat.lor ih (Nat.shiftLeft 1 k)) ks
def inM (m k : Nat) : Bool := Nat.beq (Nat.land (Nat.shiftRight m k) 1) 1
def ZgA {α : Type} (p : α → Bool) (l : List α) : Bool := List.rec true (fun a _ ih => bif p a then ih else false) l
def okM1 (m : Nat) (v : V) : Bool := V.casesOn (motive_1 := fun _ => Bool) v true (fun _ _ => true) (fun _ => true) (fun _ => true) (fun _ => false) (fun _ => false) (fun _ => true) (fun id _ _ _ => inM m id) (fun _ _ => true) (fun id _ => inM m id) (fun id _ _ => inM m id) (fun _ _ => true) (fun _ _ => true) (fun _ _ _ => true) (fun _ _ => true) (fun _ _ => false) (fun _ _ => true) (fun _ => true) true (fun _ _ => true) (fun _ _ _ => true)
def okM (m : Nat) (v : V) : Bool := V.casesOn (motive_1 := fun _ => Bool) v true (fun _ _ => true) (fun _ => true) (fun _ => true) (fun cs => ZgA (okM1 m) cs) (fun cs => ZgA (okM1 m) cs) (fun _ => true) (fun id _ _ _ => inM m id) (fun _ _ => true) (fun id _ => inM m id) (fun id _ _ => inM m id) (fun _ _ => true) (fun _ _ => true) (fun _ _ _ => true) (fun _ _ => true) (fun _ cs => ZgA (okM1 m) cs) (fun _ _ => true) (fun _ => true) true (fun _ _ => true) (fun _ _ _ => true)
def okMk (m : Nat) (b : Option Blk) : Bool := Option.casesOn b true fun b => Blk.casesOn b (fun _ cs => ZgA (okM m) cs) (fun _ _ _ => true) (fun _ _ => true) (fun _ _ _ _ _ => false) (fun _ cs => ZgA (okM m) cs)
def Zot (m : Nat) (hp : List (Nat × Option Blk)) (args : List V) : Bool := bif ZgA (fun p => okMk m p.2) hp then ZgA (okM m) args else false
def Zly (hp : List (Nat × Option Blk)) (args : List V) : Bool := Zot (Zdz (hp.map (·.1))) hp args
theorem Zi3 {α : Type} (p : α → Bool) : ∀ l : List α, ZgA p l = l.all p
  | [] => rfl
  | a :: r => by
    show (bif p a then ZgA p r else false) = _
    rw [Zi3 p r, List.all_cons]
    cases p a <;> rfl
theorem inM_eq (m k : Nat) : inM m k = m.testBit k := by
  unfold inM Nat.testBit
  show Nat.beq ((m >>> k) &&& 1) 1 = ((1 &&& (m >>> k)) != 0)
  rw [Nat.and_comm]
  have h : 1 &&& (m >>> k) = 0 ∨ 1 &&& (m >>> k) = 1 := by
    rw [Nat.and_comm, Nat.and_one_is_mod]; omega
  rcases h with h | h <;> rw [h] <;> rfl
theorem Zhc : ∀ (ks : List Nat) (k : Nat), (Zdz ks).testBit k = ks.contains k
  | [], k => by show Nat.testBit 0 k = _; simp
  | a :: r, k => by
    show (Zdz r ||| (1 <<< a)).testBit k = _
    rw [Nat.testBit_or, Zhc r k, Nat.one_shiftLeft, Nat.testBit_two_pow, List.contains_cons]
    by_cases h : a = k
    · subst h; simp
    · have : (k == a) = false := by simpa using fun e => h e.symm
      simp [h, this]
theorem okM1_eq (ks : List Nat) (v : V) : okM1 (Zdz ks) v = Zf6 ks v := by
  have hk : ∀ k, inM (Zdz ks) k = ks.contains k := fun k => by rw [inM_eq, Zhc]
  cases v <;> first | rfl | exact hk _
theorem okM_eq (ks : List Nat) (v : V) : okM (Zdz ks) v = okI ks v := by
  have hf : okM1 (Zdz ks) = Zf6 ks := funext fun v => okM1_eq ks v
  have hk : ∀ k, inM (Zdz ks) k = ks.contains k := fun k => by rw [inM_eq, Zhc]
  have ha : ∀ cs, ZgA (okM1 (Zdz ks)) cs = cs.all (Zf6 ks) := fun cs => by rw [Zi3, hf]
  cases v <;> first | rfl | exact hk _ | exact ha _
theorem Zo6 (hp : List (Nat × Option Blk)) (args : List V) : Zly hp args = Zhp hp args := by
  unfold Zly Zot Zhp
  have hf : okM (Zdz (hp.map (·.1))) = okI (hp.map (·.1)) := funext fun v => okM_eq _ v
  have ha : ∀ cs, ZgA (okM (Zdz (hp.map (·.1)))) cs = cs.all (okI (hp.map (·.1))) := fun cs => by rw [Zi3, hf]
  have hb : okMk (Zdz (hp.map (·.1))) = okBk (hp.map (·.1)) := by
    funext b
    cases b with
    | none => rfl
    | some b => cases b <;> first | rfl | exact ha _
  simp only [Zi3, hf, hb]
  cases (hp.all fun p => okBk (hp.map (·.1)) p.2) <;> rfl
section
variable (cfg : Cfg) (fns : Fns) (rec : RunC) (dr : Bool)
def Zd4 (o : Oper) (s : St) : Option (St × Rec) := rmG o s (ZbP cfg s.nid o s.ev)
def callG (o : Oper) (s : St) (fn : Func) (args : List V) : Option (St × Rec) := match fn.body with
  | none => none
  | some c => bif Nat.ble args.length fn.ntmps && (!dr || Zly s.hp args) then match rec c { sl := Zci 0 args, hp := s.hp, nid := s.nid, lent := [] } with
      | some (.exit _, _) => none
      | some (_, s') => match (ZeV cfg.tab s' fn.results.toList).run s'.heap with
        | some (vs, _, cs) => Zgr cs (some ({ sl := (match o.dst with | some d => (d, Zge vs) :: s.sl | none => s.sl), hp := s'.hp, nid := s'.nid, lent := s.lent }, ⟨s.hp.map (·.1), (s'.hp.take (s'.hp.length - s.hp.length)).reverse.map (·.1), !dr⟩))
        | none => none
      | none => none
    else none
def opG (o : Oper) (s : St) : Option (St × Rec) := match o.op with
  | .call c => match c.callee with
    | .value f => match sft s.ev f with
      | .fn g caps => match fns g with
        | some fn => callG cfg rec dr o s fn (c.args.toList.map (sft s.ev) ++ caps)
        | none => Zd4 cfg o s
      | _ => none
    | .builtin .append => match c.argTypes.toList, c.args.toList with
      | [t, t2], [x, y] => bif ZfL cfg.tab t then rmG o s (appendG cfg.tab t t2 s.nid (sft s.ev x) (sft s.ev y)) else Zd4 cfg o s
      | _, _ => none
    | _ => Zd4 cfg o s
  | .buildSlice t n ps => bif ZfL cfg.tab t then match n, ps.toList with
      | 1, [(0, x)] => rmG o s (buildG cfg.tab t s.nid (sft s.ev x))
      | _, _ => none
    else Zd4 cfg o s
  | _ => Zd4 cfg o s
def xPick (ev : Operand → V) (c a b : Operand) : RM Eff := match ev c with
  | .bool t => ret ⟨if t then ev a else ev b, []⟩
  | _ => fail
def xAlloc (nid T : Nat) : RM Eff := bind (lift (cfg.tab T)) fun ty => ret ⟨.bp nid 0, [(nid, some (.box T (ty.kinds.map ZcB)))]⟩
def xBox (nid T : Nat) (x : V) : RM Eff := bind (lift (cfg.tab T)) fun ty =>
  test (decide (x.cells.length = ty.kinds.length) && x.cells.all V.one) (ret ⟨.bp nid 0, [(nid, some (.box T (Z1 cfg.tab ty.kinds x.cells)))]⟩)
def xBuild (T : Nat) (ps : List (Nat × V)) : RM Eff := bind (lift (cfg.tab T)) fun ty =>
  bind (lift (ZdX (fun i => ty.fields[i]?.bind fun fd => (cfg.tab fd.2).map fun ft => (fd.1, ft.kinds.length)) (ty.kinds.map ZcB) ps)) fun cs =>
  test (ty.agg && ps.all fun p => p.2.cells.all V.one) (ret ⟨.agg (Z1 cfg.tab ty.kinds cs), []⟩)
def xRow (nid t n : Nat) (ps : List (Nat × V)) : RM Eff := bind (lift ((cfg.tab t).bind (·.elem))) fun e => bind (lift (cfg.tab e)) fun ty =>
  test (Zgn cfg.tab ty && decide (n * ty.kinds.length ≤ 16777216)) <|
  bind (Zfu cfg.tab ty (List.replicate n (Zdv ty)) ps) fun r => test (ZbR r.2.2) (ret ⟨.sl nid e 0 none, ended r.2.2 ++ [(nid, some (.row e r.2.1 r.1))]⟩)
def xStore (t : Nat) (p x : V) : RM Eff := bind (Zgp cfg.tab t p x) fun u => ret ⟨.dead, u⟩
def xNil : V → RM Eff
  | .bp id off => ret ⟨.bp id off, []⟩
  | .rp id i off => ret ⟨.rp id i off, []⟩
  | .ep cs off => ret ⟨.ep cs off, []⟩
  | .fn f caps => ret ⟨.fn f caps, []⟩
  | _ => fail
def x1 (m : RM V) : RM Eff := bind m fun v => ret ⟨v, []⟩
def xBin (op : BinOp) (t : Nat) (x y : V) (x0 : V) (nil : Bool) : RM Eff := match nil with
  | true => bind (lift ((cfg.tab t).bind (·.elem))) fun _ => x1 (lift (nilV op x0))
  | false => test (Zhv op y) (x1 (lift (binL cfg.tab t op x y)))
def xConv (nid s d : Nat) : V → RM Eff
  | .str l => match cfg.rof ownCv with
    | true => ZgN cfg.tab nid s d l
    | false => ZjL cfg.tab s d l
  | .sl id T 0 none => match slDst cfg.tab d with
    | true => Zid cfg.tab s d id
    | false => x1 (ZgM cfg.tab s d (.sl id T 0 none))
  | y => x1 (ZgM cfg.tab s d y)
def xFn (fn : Fn) (first captured : Array Operand) (ev : Operand → V) : RM Eff := match fn with
  | .func f => test first.toList.isEmpty (ret ⟨.fn f (captured.toList.map ev), []⟩)
  | _ => fail
def xIdx (t : Nat) (x i : V) : RM Eff := match x, i with
  | .str l, .int _ n => test (isStr cfg.tab t && Zm n l.length) (ret ⟨.int .u8 (l.getD n.toNat .dead).I, []⟩)
  | _, _ => fail
def xExt (x : V) (i : Nat) : RM Eff := match x with
  | .tup vs => x1 (lift vs[i]?)
  | _ => fail
def xCall (o : Oper) (s : St) (c : Call) : Option (St × Rec) := match c.callee with
  | .value f => match sft s.ev f with
    | .fn g caps => match fns g with
      | some fn => callG cfg rec dr o s fn (c.args.toList.map (sft s.ev) ++ caps)
      | none => rmG o s (Zki cfg s.nid g (c.args.toList.map (sft s.ev) ++ caps))
    | _ => none
  | .builtin .append => match c.argTypes.toList, c.args.toList with
    | [t, t2], [x, y] => bif ZfL cfg.tab t then rmG o s (appendG cfg.tab t t2 s.nid (sft s.ev x) (sft s.ev y)) else rmG o s (Zft cfg.tab t t2 s.nid (sft s.ev x) (sft s.ev y))
    | _, _ => none
  | .builtin b => rmG o s (ZeN cfg s.nid b c.argTypes.toList (c.args.toList.map (sft s.ev)))
  | _ => none
def Zm2 (o : Oper) (s : St) (t n : Nat) (ps : Array (Nat × Operand)) : Option (St × Rec) := bif ZfL cfg.tab t then match n, ps.toList with
    | 1, [(0, x)] => rmG o s (buildG cfg.tab t s.nid (sft s.ev x))
    | _, _ => none
  else rmG o s (xRow cfg s.nid t n (Zcl (sft s.ev) ps))
def opF (o : Oper) (s : St) : Option (St × Rec) := Op.casesOn (motive := fun _ => Option (St × Rec)) o.op
  (fun x => rmG o s (ret ⟨typed cfg.tab o.type (s.ev x), []⟩)) (fun x => rmG o s (ret ⟨typed cfg.tab o.type (s.ev x), []⟩))
  (fun c a b => rmG o s (xPick (sft s.ev) c a b)) (fun T => rmG o s (xAlloc cfg s.nid T)) (fun T x => rmG o s (xBox cfg s.nid T (sft s.ev x))) (fun T ps => rmG o s (xBuild cfg T (Zcl (sft s.ev) ps)))
  (fun t n ps => Zm2 cfg o s t n ps) (fun _ _ _ _ => none) (fun t p => rmG o s (ZiV cfg.tab s.nid t (sft s.ev p))) (fun t p x => rmG o s (xStore cfg t (sft s.ev p) (sft s.ev x))) (fun _ => none) (fun _ => none)
  (fun x => rmG o s (xNil (sft s.ev x))) (fun op t x y _ => rmG o s (xBin cfg op t (sft s.ev x) (sft s.ev y) (s.ev x) (Zkc y))) (fun op _ x => rmG o s (x1 (lift (unV op (sft s.ev x))))) (fun a d x => rmG o s (xConv cfg s.nid a d (sft s.ev x)))
  (fun _ _ => none) (fun _ _ => none) (fun fn f c => rmG o s (xFn fn f c (sft s.ev))) (fun _ _ => none) (fun _ _ => none) (fun t n c => rmG o s (Zdn cfg.tab t s.nid (sft s.ev n) (sft s.ev c)))
  (fun t x lo hi mx => rmG o s (x1 (ZfT cfg.tab t (sft s.ev x) (lo.map (sft s.ev)) (hi.map (sft s.ev)) (mx.map (sft s.ev))))) (fun t x f => rmG o s (x1 (lift (Zkd cfg.tab t (sft s.ev x) f)))) (fun t x f => rmG o s (x1 (lift (ZiU cfg.tab t (sft s.ev x) f))))
  (fun t x i => rmG o s (x1 (Zee cfg.tab t (sft s.ev x) (sft s.ev i)))) (fun t x i => rmG o s (xIdx cfg t (sft s.ev x) (sft s.ev i))) (fun _ _ _ _ => none) (fun _ _ _ _ => none) (fun _ _ _ => none) (fun _ _ _ _ => none) (fun _ _ => none) (fun _ _ => none) (fun _ => none)
  (fun _ _ _ _ => none) (fun x i => rmG o s (xExt (sft s.ev x) i)) (fun c => xCall cfg fns rec dr o s c) (fun _ => none) (fun _ => none) (fun _ => none) (fun _ _ => none) (fun _ _ _ => none) (fun _ _ => none)
theorem opF_eq (o : Oper) (s : St) : opF cfg fns rec dr o s = opG cfg fns rec dr o s := by
  obtain ⟨dst, op, type, pos, after, guard⟩ := o
  cases op
  case buildSlice t n ps =>
    show Zm2 cfg _ s t n ps = _
    unfold Zm2 opG
    simp only []
    cases ZfL cfg.tab t <;> rfl
  case index t x i =>
    show rmG _ s (xIdx cfg t (sft s.ev x) (sft s.ev i)) = _
    rfl
  case makeFunc fn f c => cases fn <;> rfl
  case call c =>
    show xCall cfg fns rec dr _ s c = _
    unfold xCall opG
    simp only []
    cases hc : c.callee with
    | value f =>
      simp only []
      cases hf : sft s.ev f with
      | fn g caps =>
        simp only []
        cases hg : fns g with
        | some fn => rfl
        | none =>
          simp only [Zd4, ZbP, hc]
          have hf' : sft s.ev f = .fn g caps := hf
          simp only [hf']
      | _ => rfl
    | builtin b =>
      cases b
      case append =>
        simp only []
        split
        · rename_i t t2 x y ht hx
          cases ZfL cfg.tab t with
          | true => rfl
          | false => simp only [cond_false, Zd4, ZbP, hc, ht, hx, List.map_cons, List.map_nil, ZeN]
        · rfl
      all_goals simp only [Zd4, ZbP, hc]
    | invoke r m => simp only [Zd4, ZbP, hc]; rfl
  all_goals rfl
def Zfz (all : List Oper) : List Oper → St → List Rec → Option (St × List Rec)
  | [], s, tr => some (s, tr)
  | o :: r, s, tr => match o.guard with
    | none => match opF cfg fns rec dr o s with
      | some (s, x) => Zfz all r s (x :: tr)
      | none => none
    | some (j, want) => match all[j]?.bind (·.dst) with
      | none => none
      | some t => match s.slot t with
        | .bool b => bif b == want then match opF cfg fns rec dr o s with
            | some (s, x) => Zfz all r s (x :: tr)
            | none => none
          else Zfz all r (s.put o.dst .sk) (⟨[], [], false⟩ :: tr)
        | .sk => Zfz all r (s.put o.dst .sk) (⟨[], [], false⟩ :: tr)
        | _ => none
end
abbrev ZeA := Nat → Option (List Nat)
def insideG (h : List (Nat × Option Blk)) (id : Nat) : List Nat := match look h id with
  | some (some (.box _ cs)) => cs.flatMap ids1
  | some (some (.grow _ cs)) => cs.flatMap ids1
  | _ => []
def ZkQ (h : List (Nat × Option Blk)) : Nat → List Nat → List Nat
  | 0, ids => ids
  | n + 1, ids => ZkQ h n (ZcN ids (ids.flatMap (insideG h)))
def canonG (keep : List Nat) (s : St) : St := ZiX keep s (ZkQ s.hp 4 (ZcN (ZcN [] s.lent) (keep.flatMap fun t => idsV (s.slot t))))
def ZkR (cn : ZeA) (k : Nat) (s : St) : St := match cn k with
  | some keep => canonG keep s
  | none => s
def Zgf (cfg : Cfg) (fns : Fns) (rec : ZeA → RunC) (cn : ZeA) : RunC
  | .skip, s => some (.normal, s)
  | .label _, s => some (.normal, s)
  | .region _ ops draw, s => match Zfz cfg fns (rec fun _ => none) draw ops.toList ops.toList s [] with
    | some (s, tr) => bif !draw || (ZdZ tr || ZcU (CheckFast.beforeF ops).toList 0 tr.reverse) then some (.normal, s) else none
    | none => none
  | .seq a b, s => match rec cn a s with
    | some (.normal, s') => rec cn b s'
    | r => r
  | .cond c a b, s => match c with
    | .tmp t => match s.slot t with
      | .bool x => bif x then rec cn a s else rec cn b s
      | _ => none
    | .const (.bool true) => rec cn a s
    | .const (.bool false) => rec cn b s
    | _ => none
  | .block id a, s => match rec cn a s with
    | some (.exit j, s') => bif Nat.beq j id then some (.normal, s') else some (.exit j, s')
    | r => r
  | .loop a, s => match rec cn a s with
    | some (.normal, s') => rec cn (.loop a) (ZkR cn (Zbl a) s')
    | r => r
  | .exit id, s => some (.exit id, s)
  | .ret, s => some (.ret, s)
  | _, _ => none
def Zi4 (cfg : Cfg) (fns : Fns) (n : Nat) : ZeA → RunC := Nat.rec (fun _ _ _ => none) (fun _ ih => Zgf cfg fns ih) n
def Zc8 (cfg : Cfg) (fns : Fns) (cn : ZeA) (n : Nat) (fn : Func) (args : List V) : Option (V × List V) := match fn.body with
  | none => none
  | some c => match Zi4 cfg fns n cn c (ZiY args) with
    | some (.exit _, _) => none
    | some (_, s) => kept (args.flatMap lkOf) (Zgs cfg.tab fn.results.toList (Ze5 (Zeh cfg.tab s s.lent) []))
    | none => none
def ZgB (cfg : Cfg) (fns : Fns) (fuel : Nat) (fn : Func) : List V → Option (V × List V)
  | [.inl T l] => match Zc8 cfg fns (fun _ => none) fuel fn [.nn T l] with
    | some (.rr T' o l', []) => bif l.isEmpty then match Zc8 cfg fns (fun _ => none) fuel fn [.nl T] with
        | some (.nil _, []) => bif l'.isEmpty && (cfg.tab T').isSome then some (.rr T' o l', []) else none
        | _ => none
      else some (.rr T' o l', [])
    | _ => none
  | _ => none
def ZeY (P : Program) (cfg : Cfg) (fns : Fns) (fl cl : List Nat) (cnf : Nat → ZeA) (fuel : Nat) (n : Nat) : Sums := Nat.rec cfg.sums (fun _ ih f args => match cfg.sums f args with
  | some r => some r
  | none => bif fl.contains f then match P.funcs[f]? with
      | some fn => bif Nat.ble args.length fn.ntmps then match bif cl.contains f then ZgB { cfg with sums := ih } fns fuel fn args else Zc8 { cfg with sums := ih } fns (cnf f) fuel fn args with
          | some r => some (true, r)
          | none => none
        else none
      | none => none
    else none) n
section
variable {P : Program} {tab : Tab}
theorem ZkS {E : Entry} {M : Mem} (hM : MemOk tab E M) {e : TypeId} {ty : Ty} (he : tab e = some ty) {s : V} {sv : Value} {l : List V} {K log : List Nat} (hs : M.Rs tab E s sv) (h : gEls e s M.hp = some ((l, K), log)) :
    ∃ a cap xs, sv = .slice a l.length cap ∧ RowIs M.w e ty.kinds.length l.length (.slice a l.length cap) xs ∧ (∀ j, j < l.length → M.Rs tab E (l.getD j .dead) (xs.getD j undef)) ∧ ∀ g ∈ Zp (.slice a l.length cap), ∃ k ∈ K, g ∈ M.top k := by
  cases s with
  | nil T =>
    cases Zk (h := M.hp) h
    obtain ⟨a, rfl⟩ := hs.nil
    have ht : Zp (.slice a 0 0) = [] := by cases a <;> rfl
    exact ⟨a, 0, [], rfl, ⟨by simp, .inl ⟨a, rfl, rfl⟩⟩, by simp, fun g hg => by rw [List.length_nil, ht] at hg; cases hg⟩
  | sl id T off len =>
    cases off with
    | succ n => exact (Zl (h := M.hp) h).elim
    | zero =>
      cases len with
      | some n => exact (Zl (h := M.hp) h).elim
      | none =>
        obtain ⟨blk, l1, b1, l1', h6, h7, h8⟩ := Zi (h := M.hp) h
        cases h8
        obtain ⟨h6, -⟩ := ZaD h6
        cases blk with
        | grow T' cs =>
          obtain ⟨hte, h7'⟩ := Zv h7
          obtain rfl : T' = e := by simpa using hte
          cases Zk h7'
          obtain ⟨ty', v, xs, q1, q2, q3, q4, q5, q6, q7⟩ := hM.blocks id _ h6
          obtain rfl : ty = ty' := Option.some.inj (he.symm.trans q1)
          cases hs with
          | tree hs => cases hs
          | sl _ _ _ _ sz N a a' cap n k1 k2 k3 k4 k5 k6 =>
            have e := q3.symm.trans k1
            simp only [Option.some.injEq, RB.row.injEq] at e
            obtain ⟨rfl, rfl, rfl, rfl⟩ := e
            obtain rfl := k6 rfl
            simp only [Option.getD_none, Nat.sub_zero] at k3
            subst k3
            exact ⟨a', cap, xs, by rw [Nat.sub_zero], q4, q5, fun g hg => ⟨id, by simp, by rw [q6]; exact hg⟩⟩
        | _ => exact (Zl h7).elim
  | _ => exact (Zl (h := M.hp) h).elim
theorem ZpR {w w' : World} {T sz N cap : Nat} {a : Option Addr} {xs : List Value} (h : RowIs w T sz N (.slice a N cap) xs) (hw : ∀ g, g < w.heap.size → w'.heap[g]? = w.heap[g]?) :
    (Builtin.firstCells sz N (.slice a N cap)).run P w' = .ok xs.toArray w' := by
  have h' := h.keep (w' := w') fun g hg => hw g (h.top_lt g hg)
  rcases h'.2 with ⟨b, e3, h0⟩ | ⟨g, cap', cur, e3, hc', hg, hNc, hcm, hcs, htk⟩
  · have hx0 : xs = [] := List.eq_nil_of_length_eq_zero (by rw [h'.1, h0]; simp)
    rw [h0, hx0]
    cases a <;> simp [Builtin.firstCells, loadCells, loadCellsFrom]
  · simp only [Value.slice.injEq] at e3
    obtain ⟨rfl, -, rfl⟩ := e3
    refine run_firstCells_some (P := P) w' sz N _ _ _ _ h'.1 fun j v hv => ?_
    have hj : j < xs.length := (List.getElem?_eq_some_iff.1 hv).1
    obtain ⟨g', cap', e4, _, _, hcell⟩ := h'.cell j (by rw [← h'.1]; exact hj)
    cases e4
    rw [Addr.add_none, Nat.zero_add, hcell]
    simp [List.getD, hv]
theorem Zm3 {α : Type} (a b : List α) (d : α) (j : Nat) : (a ++ b).getD j d = if j < a.length then a.getD j d else b.getD (j - a.length) d := by
  simp only [List.getD, List.getElem?_append]; split <;> rfl
theorem ZlS {E : Entry} {M : Mem} (hM : MemOk tab E M) {nid : Nat} (hn : M.hp nid = none) {e : TypeId} {ty : Ty} (he : tab e = some ty) (h1 : ty.kinds.length = 1) {l : List V} {vals : List Value} {K : List Nat}
    {w' : World} {v : Value} (hrow : RowIs w' e ty.kinds.length l.length v vals) (hl : ∀ j, j < l.length → M.Rs tab E (l.getD j .dead) (vals.getD j undef))
    {F : List Nat} (hk : KeptBut F M.w w') (hF : ∀ g ∈ F, ∃ k ∈ K, g ∈ M.top k) (hv : ∀ g ∈ Zp v, g ∈ F ∨ M.w.heap.size ≤ g) :
    ∃ M', M'.w = w' ∧ StepOk tab E M ⟨.sl nid e 0 none, ended K ++ [(nid, some (.grow e l))]⟩ v M' := by
  have hnd : (Zp v ++ []).Nodup := by
    rw [List.append_nil]
    rcases hrow.2 with ⟨a, rfl, _⟩ | ⟨g, cap, cur, rfl, _⟩
    · cases a <;> simp [Zp]
    · cases cap <;> simp [Zp]
  have main := put_ok hM w' K nid (.row e ty.kinds.length l.length v) (.grow e l) (Zp v) [] (.inl (hM.fresh nid hn).1) hk.os hk.tape hk.output hk.size
    (fun g hg hno => hk.block g hg fun hgF => by obtain ⟨k, hkK, hgk⟩ := hF g hgF; exact hno k (.inr hkK) hgk)
    (fun g hg => (hv g hg).imp (fun hgF => by obtain ⟨k, hkK, hgk⟩ := hF g hgF; exact ⟨k, .inr hkK, hgk⟩) id)
    (fun g hg => by cases hg) hnd (fun g hg => hrow.top_lt g (by simpa using hg))
    fun hle => ⟨ty, v, vals, he, h1, rfl, hrow, fun j hj => hle.rs (hl j hj), rfl, rfl⟩
  refine ⟨_, rfl, main.1, main.2, by rw [Zkt], ?_⟩
  have hnc : ∃ a cap, v = .slice a l.length cap ∧ l.length ≤ cap := by
    rcases hrow.2 with ⟨a, rfl, h0⟩ | ⟨g, cap, cur, rfl, _, _, hnc, _⟩
    · exact ⟨a, 0, by rw [h0], by omega⟩
    · exact ⟨_, cap, rfl, hnc⟩
  obtain ⟨a, cap, rfl, hc⟩ := hnc
  exact .sl nid e 0 none ty.kinds.length l.length a a cap l.length (by simp [Mem.put]) hc (by simp) (by omega) (fun _ => by cases a <;> simp [Addr.add_zero']) (fun _ => rfl)
theorem Zmk (hT : Zx P tab) {E : Entry} {M : Mem} (hM : MemOk tab E M) {nid : Nat} (hn : M.hp nid = none) {t t2 ot : TypeId} {s x : V} {sv xv : Value} {Ef : Eff} {log : List Nat}
    (hs : M.Rs tab E s sv) (hx : M.Rs tab E x xv) (h : appendG tab t t2 nid s x M.hp = some (Ef, log)) :
    ∃ M' val, (Builtin.append_ #[t, t2] ot #[sv, xv]).run P M.w = .ok val M'.w ∧ StepOk tab E M Ef val M' := by
  unfold appendG at h
  obtain ⟨e, l1, b1, l1', h1, h2, h3⟩ := Zi h
  cases h3
  obtain ⟨h1, -⟩ := Zt h1
  obtain ⟨ty0, h0, h1⟩ := Option.bind_eq_some_iff.1 h1
  obtain ⟨ty, l2, b2, l2', h3, h4, h5⟩ := Zi h2
  cases h5
  obtain ⟨h3, -⟩ := Zt h3
  have hu := ((hT t ty0 h0).elem e h1).1
  obtain ⟨⟨bl, bK⟩, l3, b3, l3', h5, h6, h7⟩ := Zi h4
  cases h7
  obtain ⟨⟨ml, mK⟩, l4, b4, l4', h7, h8, h9⟩ := Zi h6
  cases h9
  obtain ⟨h9, h10⟩ := Zv h8
  cases Zk h10
  simp only [Bool.and_eq_true, decide_eq_true_eq] at h9
  obtain ⟨hk1, hone, hseq, hroom, hdis⟩ := h9
  have hroom' : bl.length + ml.length ≤ 9223372036854775807 ∧ (bl.length + ml.length) * ty.bytes ≤ 140737488355328 := by
    simpa [Zw] using hroom
  obtain ⟨a, cap, xs, rfl, r1, r2, r3⟩ := ZkS hM h3 hs h5
  obtain ⟨a2, cap2, ys, rfl, m1, m2, m3⟩ := ZkS hM h3 hx h7
  have hxl : xs.length = bl.length := by rw [r1.1, hk1, Nat.mul_one]
  have hyl : ys.length = ml.length := by rw [m1.1, hk1, Nat.mul_one]
  obtain ⟨v', w', hr, k1, k2, k3⟩ := Zgb (P := P) hu (hT e ty h3) (Zkv hT hseq) (ot := ot) r1 (Nat.le_refl _) (xv := .slice a2 ml.length cap2) m1.1 (fun v hv => by
      obtain ⟨j, hj, rfl⟩ := List.mem_iff_getElem.1 hv
      have hm := m2 j (by omega)
      rw [Zcm _ _ _ hj] at hm
      refine hm.one' ?_
      rw [Zcm _ _ _ (by omega : j < ml.length)]
      exact List.all_eq_true.1 hone _ (List.getElem_mem _)) (fun w' => by simp [Builtin.lenOf]) (fun w' hw' => ZpR m1 hw') hroom'.1 hroom'.2
  have htk : xs.take (bl.length * ty.kinds.length) = xs := by rw [← r1.1, List.take_length]
  rw [htk] at k1
  have hgl : ∀ j, j < (bl ++ ml).length → M.Rs tab E ((bl ++ ml).getD j .dead) ((xs ++ ys).getD j undef) := fun j hj => by
    rw [Zm3, Zm3, hxl]
    rw [List.length_append] at hj
    split
    · rename_i hc; exact r2 j hc
    · exact m2 _ (by omega)
  obtain ⟨M', hw, hstep⟩ := ZlS (K := bK ++ mK) (l := bl ++ ml) hM hn h3 hk1 (by rw [List.length_append]; exact k1) hgl k2 (fun g hg => by obtain ⟨k, hk, hgk⟩ := r3 g hg; exact ⟨k, List.mem_append_left _ hk, hgk⟩)
    (fun g hg => (k3 g hg).imp id fun e => by omega)
  exact ⟨M', v', by rw [hw]; exact hr, hstep⟩
theorem Zm4 (hT : Zx P tab) {E : Entry} {M : Mem} (hM : MemOk tab E M) {nid : Nat} (hn : M.hp nid = none) {t : TypeId} {x : V} {v : Value} {Ef : Eff} {log : List Nat}
    (hx : M.Rs tab E x v) (h : buildG tab t nid x M.hp = some (Ef, log)) : ∃ M' val, (Instr.buildSlice t 1 #[(0, v)]).run P M.w = .ok val M'.w ∧ StepOk tab E M Ef val M' := by
  unfold buildG at h
  obtain ⟨e, l1, b1, l1', h1, h2, h3⟩ := Zi h
  cases h3
  obtain ⟨h1, -⟩ := Zt h1
  obtain ⟨ty0, h0, h1⟩ := Option.bind_eq_some_iff.1 h1
  obtain ⟨ty, l2, b2, l2', h3, h4, h5⟩ := Zi h2
  cases h5
  obtain ⟨h3, -⟩ := Zt h3
  obtain ⟨h9, h10⟩ := Zv h4
  cases Zk h10
  simp only [Bool.and_eq_true, decide_eq_true_eq] at h9
  obtain ⟨hk1, hone⟩ := h9
  have hcx : x.cells = [x] := by cases x <;> first | rfl | cases hone
  have hone : x.cells.all V.one = true := by rw [hcx]; simpa using hone
  have hu := ((hT t ty0 h0).elem e h1).1
  have hty := hT e ty h3
  obtain ⟨i, z, hi, hs, hb, hz', hzc, -⟩ := hty.info
  have hzs : z.cells.size = ty.kinds.length := by rw [← Array.length_toList, hzc]; simp
  obtain ⟨c1, c2, -⟩ := ZcV hx hone
  rw [hcx] at c1 c2
  have hvs : v.cells.size = ty.kinds.length := by rw [← Array.length_toList, c1, hk1]; rfl
  have e3 : Instr.fill (fun i => some (i * ty.kinds.length, ty.kinds.length)) (madeCells z.cells (1 * ty.kinds.length)) [(0, v)] = some v.cells := by
    rw [Zil _ _ 0 (0 * ty.kinds.length) ty.kinds.length v [] rfl hvs (by simp [madeCells])]
    simp only [Instr.fill, Option.some.injEq]
    apply Array.ext'
    have hm : (madeCells z.cells (1 * ty.kinds.length)).toList.drop (0 * ty.kinds.length + v.cells.toList.length) = [] := by
      apply List.drop_eq_nil_of_le
      simp [madeCells, hvs]
    rw [hm]; simp
  have hrun : (Instr.buildSlice t 1 #[(0, v)]).run P M.w = .ok (.slice (some ⟨M.w.heap.size, 0, none⟩) 1 1) (M.w.alloc (.cells v.cells e)) := by
    have hc2 : ¬ (1 * ty.kinds.length > 2 ^ 24) := by omega
    have hsz := hty.sizeOf M.w
    have hzv : (zeroValue e).run P M.w = .ok z M.w := by simp only [zeroValue, Sem.run_bind, typeInfo, run_program, Result.andThen_ok, hi, Sem.run_pure, hz']
    have hz0 : ¬ 1 * ty.kinds.length = 0 := by omega
    have hv0 : madeCells z.cells (1 * ty.kinds.length) = (Array.range (1 * ty.kinds.length)).map (fun x => z.cells[x % z.cells.size]!) := rfl
    rw [hv0] at e3
    simp only [Instr.buildSlice, Sem.run_bind, run_underlying hu, Result.andThen_ok, hsz, Sem.run_ite, if_neg hc2, if_neg hz0, hzv, Sem.run_pure, e3, newRow, run_newObj, World.alloc]
  have hrow := Zim (w := M.w) (T := e) (sz := ty.kinds.length) (n := 1) (cur := v.cells) (by rw [hvs, Nat.one_mul]) (by simp [maxLen])
  obtain ⟨M', hw, hst⟩ := ZlS (K := []) (l := [x]) (vals := v.cells.toList) hM hn h3 hk1 hrow (fun j hj => c2 j (by simpa using hj)) (F := []) ⟨rfl, rfl, rfl, by simp, fun g hg _ => heap_alloc_old _ _ _ hg⟩ (fun g hg => by cases hg) Zg3
  exact ⟨M', _, by rw [hw]; exact hrun, hst⟩
def ZhR (P : Program) (fns : Fns) : Prop := ∀ g fn, fns g = some fn → P.funcs[g]? = some fn ∧ (fn.name == "runtime.NumGoroutine") = false ∧ ∀ c, fn.body = some c → ZaW fn.ntmps c = true
def Keys (s s' : St) : Prop := ∃ l, s'.hp = l ++ s.hp
def ZeB (s : St) : Prop := ∀ id, s.nid ≤ id → s.heap id = none
def RecOk (P : Program) (tab : Tab) (E : Entry) (rec : RunC) : Prop := ∀ c s e s', rec c s = some (e, s') → (Keys s s' ∧ (ZeB s → ZeB s')) ∧ ∀ N ps, ZaW N c = true → ∀ M a, Rel tab E N ps M s a → ∀ Q : Exit → Act → World → Prop,
  (∀ M' a', Rel tab E N ps M' s' a' → MemLe E M M' → Q (ZfW e) a' M'.w) → c.wp P Q a M.w
theorem Local.appendG (tab : Tab) (t t2 : TypeId) (nid : Nat) (s x : V) : Local (appendG tab t t2 nid s x) := by
  have hg : ∀ e v, Local (gEls e v) := fun e v => by
    unfold gEls
    repeat' (first | exact Local.ret _ | exact Local.fail | exact Local.get _ | (refine Local.bind ?_ fun _ => ?_) | (refine Local.test _ ?_) | split)
  unfold Eng.appendG
  repeat' (first | exact Local.ret _ | exact hg _ _ | exact Local.lift _ | (refine Local.bind ?_ fun _ => ?_) | (refine Local.test _ ?_))
theorem Local.buildG (tab : Tab) (t : TypeId) (nid : Nat) (x : V) : Local (buildG tab t nid x) := by
  unfold Eng.buildG
  repeat' (first | exact Local.ret _ | exact Local.lift _ | (refine Local.bind ?_ fun _ => ?_) | (refine Local.test _ ?_))
theorem Zou {o : Oper} {s s1 : St} {r : Rec} {m : RM Eff} (h : rmG o s m = some (s1, r)) : ∃ Ef, m s.heap = some (Ef, r.log) ∧ s1.F = ZaM s.F ⟨o.dst, Ef.v, Ef.upd, r.log⟩ ∧ r.mods = Ef.upd.map (·.1) ∧ r.all = false ∧ s1.nid = ZcM s.nid Ef.upd ∧ s1.lent = s.lent := by
  unfold rmG at h
  split at h
  · rename_i E l c he
    obtain ⟨hc, h⟩ := Zej h
    cases h
    exact ⟨E, rm_at.2 ⟨c, he, hc⟩, app_F s o.dst E l, rfl, rfl, rfl, rfl⟩
  · cases h
def EffX (P : Program) (tab : Tab) (E : Entry) (o : Oper) (s s1 : St) (r : Rec) : Prop :=
  ∃ Ef : Eff, s1.F = ZaM s.F ⟨o.dst, Ef.v, Ef.upd, r.log⟩ ∧ r.mods = Ef.upd.map (·.1) ∧ s1.lent = s.lent ∧ (∀ id, s1.nid ≤ id → s1.heap id = none) ∧
    ∀ F' : Fs, (∀ x ∈ o.op.operands, ev F'.sl x = s.ev x) → (∀ k ∈ r.log, F'.hp k = s.heap k) → (r.all = true → F'.hp = s.heap) → (∀ k ∈ r.mods, F'.hp k = s.heap k) →
      ∀ (M : Mem) (a : Act), MemOk tab E M → M.hp = F'.hp → Slots tab E M F'.sl a → ∀ Q : Exit → Act → World → Prop, o.wp P a M.w (OpOk tab E M o a Ef) Q
theorem ZnY {t t2 : TypeId} {nid : Nat} {s x : V} {hp : ZaC} {Ef : Eff} {log : List Nat} (h : appendG tab t t2 nid s x hp = some (Ef, log)) : nid ∈ Ef.upd.map (·.1) := by
  obtain ⟨e, l1, b1, l1', h1, h2, h3⟩ := Zi h
  obtain ⟨ty, l2, b2, l2', h4, h5, h6⟩ := Zi h2
  obtain ⟨base, l3, b3, l3', h7, h8, h9⟩ := Zi h5
  obtain ⟨more, l4, b4, l4', h10, h11, h12⟩ := Zi h8
  obtain ⟨-, h13⟩ := Zv h11
  cases Zk h13
  cases h12; cases h9; cases h6; cases h3
  simp
theorem Zo7 {t : TypeId} {nid : Nat} {x : V} {hp : ZaC} {Ef : Eff} {log : List Nat} (h : buildG tab t nid x hp = some (Ef, log)) : nid ∈ Ef.upd.map (·.1) := by
  obtain ⟨e, l1, b1, l1', h1, h2, h3⟩ := Zi h
  obtain ⟨ty, l2, b2, l2', h4, h5, h6⟩ := Zi h2
  obtain ⟨-, h13⟩ := Zv h5
  cases Zk h13
  cases h6; cases h3
  simp
theorem Zi5 (hp : ZaC) (l : List (Nat × Option Blk)) (i : Nat) : ZW hp l.reverse i = match look l i with | some b => some b | none => hp i := by
  have key : ∀ (u : List (Nat × Option Blk)) (p : Nat × Option Blk) (hp : ZaC), ZW hp (u ++ [p]) i = if i = p.1 then some p.2 else ZW hp u i := by
    intro u
    induction u with
    | nil => intro p hp; rfl
    | cons q u ih => intro p hp; exact ih p _
  induction l with
  | nil => rfl
  | cons p l ih =>
    obtain ⟨j, b⟩ := p
    rw [List.reverse_cons, key, ZB]
    by_cases e : i = j
    · rw [if_pos e, if_pos e]
    · rw [if_neg e, if_neg e]; exact ih
theorem ZnZ {α : Type} (l r : List (Nat × α)) (i : Nat) : look (l ++ r) i = match look l i with | some b => some b | none => look r i := by
  induction l with
  | nil => rfl
  | cons p l ih =>
    obtain ⟨j, b⟩ := p
    rw [List.cons_append, ZB, ZB]
    by_cases e : i = j
    · rw [if_pos e, if_pos e]
    · rw [if_neg e, if_neg e]; exact ih
theorem ZjT {α : Type} {l : List (Nat × α)} (k : Nat) : k ∈ l.map (·.1) ↔ look l k ≠ none := by
  induction l with
  | nil => simp [Zgq]
  | cons p l ih =>
    obtain ⟨j, x⟩ := p
    rw [ZB]
    by_cases e : k = j
    · simp [e]
    · rw [if_neg e, ← ih]; simp [e]
theorem okI_rs {w : World} {ok ok' : Nat → Prop} {ρ ρ' : Nat → Option RB} {ks : List Nat} {v : V} {x : Value} (hv : okI ks v = true) (h : Rs tab w ok ρ v x) (hρ : ∀ k ∈ ks, ρ' k = ρ k) (hok : ∀ g, ok g → ok' g) : Rs tab w ok' ρ' v x := by
  have one : ∀ {v : V} {x : Value}, Zf6 ks v = true → Rs tab w ok ρ v x → Rs tab w ok' ρ' v x := fun hv h => by
    cases h with
    | tree h => exact .tree (h.keep hok fun _ _ => rfl)
    | sl id T off len sz N a a' cap n h1 h2 h3 h4 h5 h6 => exact .sl id T off len sz N a a' cap n (by rw [hρ id (by simpa [Zf6] using hv)]; exact h1) h2 h3 h4 h5 h6
    | bp id off g h1 => exact .bp id off g (by rw [hρ id (by simpa [Zf6] using hv)]; exact h1)
    | rp id idx off T sz N g cap h1 h2 => exact .rp id idx off T sz N g cap (by rw [hρ id (by simpa [Zf6] using hv)]; exact h1) h2
    | agg _ _ _ _ => cases hv
    | tup _ _ _ _ => cases hv
    | fn _ _ _ _ _ => cases hv
  have all : ∀ {cs : List V} {vals : List Value}, cs.all (Zf6 ks) = true → (∀ j, j < cs.length → Rs tab w ok ρ (cs.getD j .dead) (vals.getD j undef)) → ∀ j, j < cs.length → Rs tab w ok' ρ' (cs.getD j .dead) (vals.getD j undef) := fun hv h j hj => by
    refine one ?_ (h j hj)
    rw [Zcm _ _ _ hj]
    exact List.all_eq_true.1 hv _ (List.getElem_mem hj)
  cases h with
  | tree h => exact .tree (h.keep hok fun _ _ => rfl)
  | agg cs vals h1 h2 => exact .agg cs vals h1 (all hv h2)
  | tup cs vals h1 h2 => exact .tup cs vals h1 (all hv h2)
  | fn f cs vals h1 h2 => exact .fn f cs vals h1 (all hv h2)
  | sl id T off len sz N a a' cap n h1 h2 h3 h4 h5 h6 => exact one hv (.sl id T off len sz N a a' cap n h1 h2 h3 h4 h5 h6)
  | bp id off g h1 => exact one hv (.bp id off g h1)
  | rp id idx off T sz N g cap h1 h2 => exact one hv (.rp id idx off T sz N g cap h1 h2)
theorem frame {E : Entry} {M : Mem} (hM : MemOk tab E M) (ks ks0 : List Nat) (hsub : ∀ k, k ∈ ks0 → k ∈ ks) (hcl : ∀ k b, k ∈ ks → M.hp k = some b → okBk ks0 b = true) :
    ∃ (E0 : Entry) (M0 : Mem), M0.w = M.w ∧ MemOk tab E0 M0 ∧ M0.hp = (fun k => if k ∈ ks then M.hp k else none) ∧ (∀ v x, okI ks0 v = true → M.Rs tab E v x → M0.Rs tab E0 v x) ∧
      ∀ M', MemOk tab E0 M' → MemLe E0 M0 M' → (∀ k, k ∉ ks → M'.hp k = none) → ∃ M1, M1.w = M'.w ∧ MemOk tab E M1 ∧ MemLe E M M1 ∧ M1.hp = (fun k => if k ∈ ks then M'.hp k else M.hp k) ∧ ∀ v x, M'.Rs tab E0 v x → M1.Rs tab E v x := by
  have hρs : ∀ k ∈ ks0, (if k ∈ ks then M.ρ k else none) = M.ρ k := fun k hk => if_pos (hsub k hk)
  generalize hE0 : ({ W0 := M.w, okA := okS E M, Ft := ks.flatMap M.top, Fn := ks.flatMap M.nest } : Entry) = E0
  generalize hM0 : ({ w := M.w, ρ := fun k => if k ∈ ks then M.ρ k else none, top := fun k => if k ∈ ks then M.top k else [], nest := fun k => if k ∈ ks then M.nest k else [], hp := fun k => if k ∈ ks then M.hp k else none } : Mem) = M0
  have htop : ∀ k g, g ∈ M0.top k → k ∈ ks ∧ g ∈ M.top k := fun k g hg => by
    rw [← hM0] at hg
    by_cases hk : k ∈ ks
    · simp only [hk, if_true] at hg; exact ⟨hk, hg⟩
    · simp [hk] at hg
  have hnest : ∀ k g, g ∈ M0.nest k → k ∈ ks ∧ g ∈ M.nest k := fun k g hg => by
    rw [← hM0] at hg
    by_cases hk : k ∈ ks
    · simp only [hk, if_true] at hg; exact ⟨hk, hg⟩
    · simp [hk] at hg
  have hboth : ∀ k g, g ∈ M0.top k ++ M0.nest k → k ∈ ks ∧ g ∈ M.top k ++ M.nest k := fun k g hg => by
    rcases List.mem_append.1 hg with hg | hg
    · exact ⟨(htop k g hg).1, List.mem_append_left _ (htop k g hg).2⟩
    · exact ⟨(hnest k g hg).1, List.mem_append_right _ (hnest k g hg).2⟩
  have hw0 : M0.w = M.w := by rw [← hM0]
  have hok : ∀ g, okS E M g → okS E0 M0 g := fun g hg => ⟨.inl (by rw [← hE0]; exact hg), by rw [hw0]; exact hg.2.1, fun id hid => hg.2.2 id (htop id g hid).2⟩
  have hFt : ∀ g, g ∈ E0.Ft → ∃ k ∈ ks, g ∈ M.top k := fun g hg => by rw [← hE0] at hg; simpa using hg
  have hFn : ∀ g, g ∈ E0.Ft ++ E0.Fn → ∃ k ∈ ks, g ∈ M.top k ++ M.nest k := fun g hg => by
    rw [← hE0] at hg
    rcases List.mem_append.1 hg with hg | hg
    · obtain ⟨k, hk, hg⟩ := List.mem_flatMap.1 hg; exact ⟨k, hk, List.mem_append_left _ hg⟩
    · obtain ⟨k, hk, hg⟩ := List.mem_flatMap.1 hg; exact ⟨k, hk, List.mem_append_right _ hg⟩
  have hW : E0.W0 = M.w := by rw [← hE0]
  refine ⟨E0, M0, hw0, ⟨fun id b hb => ?_, fun id hb => ?_, fun id hb => ?_, fun id => ?_, fun id id' hne g hg hg' => ?_, fun id g hg => ?_, fun id g hg => ?_, ?_⟩, by rw [← hM0], fun v x hv h => ?_, fun M' m1 m2 m3 => ?_⟩
  · have hk : id ∈ ks := by
      rw [← hM0] at hb
      by_cases hk : id ∈ ks
      · exact hk
      · simp [hk] at hb
    have hb : M.hp id = some (some b) := by rw [← hM0] at hb; simpa [hk] using hb
    have hB := hM.blocks id b hb
    have hcb := hcl id _ hk hb
    have e1 : M0.ρ id = M.ρ id ∧ M0.top id = M.top id ∧ M0.nest id = M.nest id := by rw [← hM0]; simp [hk]
    rw [e1.1, e1.2.1, e1.2.2, hw0]
    have hcell : ∀ {cs : List V} {f : Nat → Value}, cs.all (okI ks0) = true → (∀ j, j < cs.length → M.Rs tab E (cs.getD j .dead) (f j)) → ∀ j, j < cs.length → Rs tab M.w (okS E0 M0) M0.ρ (cs.getD j .dead) (f j) := fun {cs f} hc h j hj => by
      have hj' := h j hj
      refine okI_rs (ks := ks0) ?_ hj' (fun k hk => by rw [← hM0]; exact hρs k hk) hok
      rw [Zcm _ _ _ hj]
      exact List.all_eq_true.1 hc _ (List.getElem_mem hj)
    cases b with
    | box T cs =>
      obtain ⟨g, c, TT, q1, q2, q3, q4, q5, q6⟩ := hB
      exact ⟨g, c, TT, q1, q2, q3, hcell hcb q4, q5, q6⟩
    | row T own els =>
      obtain ⟨ty, v, q1, q2, q3, q4⟩ := hB
      exact ⟨ty, v, q1, q2, q3.keep hok (fun _ _ => rfl) (fun _ _ => rfl), q4⟩
    | drow T els =>
      obtain ⟨ty, v, n, q1, q2, q3, q4, q5⟩ := hB
      exact ⟨ty, v, n, q1, q2, q3.keep hok (fun _ _ => rfl) (fun _ _ => rfl), q4, q5⟩
    | hrow _ _ _ _ _ => cases hcb
    | grow T cs =>
      obtain ⟨ty, v, xs, q1, q2, q3, q4, q5, q6, q7⟩ := hB
      exact ⟨ty, v, xs, q1, q2, q3, q4, hcell hcb q5, q6, q7⟩
  · rw [← hM0] at hb ⊢
    by_cases hk : id ∈ ks
    · simp only [hk, if_true] at hb ⊢; exact hM.fresh id hb
    · simp [hk]
  · rw [← hM0] at hb ⊢
    by_cases hk : id ∈ ks
    · simp only [hk, if_true] at hb ⊢; exact hM.ended id hb
    · simp [hk]
  · rw [← hM0]
    by_cases hk : id ∈ ks
    · simpa [hk] using hM.nodup id
    · simp [hk]
  · exact hM.apart id id' hne g (hboth id g hg).2 (hboth id' g hg').2
  · obtain ⟨hk, hg⟩ := hboth id g hg
    refine ⟨.inl ?_, by rw [hw0]; exact (hM.mine id g hg).2⟩
    rw [← hE0]
    rcases List.mem_append.1 hg with hg | hg
    · exact List.mem_append_left _ (List.mem_flatMap.2 ⟨id, hk, hg⟩)
    · exact List.mem_append_right _ (List.mem_flatMap.2 ⟨id, hk, hg⟩)
  · obtain ⟨hk, hg⟩ := htop id g hg
    exact .inl (by rw [← hE0]; exact List.mem_flatMap.2 ⟨id, hk, hg⟩)
  · rw [hW, hw0]; exact .refl _ _
  · show Rs tab M0.w (okS E0 M0) M0.ρ v x
    rw [hw0]
    exact okI_rs (ks := ks0) hv h (fun k hk => by rw [← hM0]; exact hρs k hk) hok
  ·
    have hsz : M.w.heap.size ≤ M'.w.heap.size := by have := m1.kept.size; rwa [hW] at this
    have hext : ∀ k, k ∉ ks → ∀ g ∈ M.top k ++ M.nest k, g ∉ E0.Ft ++ E0.Fn ∧ g < M.w.heap.size := fun k hk g hg => ⟨fun hg' => by
      obtain ⟨k', hk', hg'⟩ := hFn g hg'
      exact hM.apart k k' (fun e => hk (e ▸ hk')) g hg hg', (hM.mine k g hg).2⟩
    have hmine : ∀ k g, g ∈ M'.top k ++ M'.nest k → g ∈ E0.Ft ++ E0.Fn ∨ M.w.heap.size ≤ g := fun k g hg => by have := (m1.mine k g hg).1; unfold Entry.mine at this; rwa [hW] at this
    have hemine : ∀ g, g ∈ E0.Ft ++ E0.Fn ∨ M.w.heap.size ≤ g → E.mine g := fun g hg => by
      rcases hg with hg | hg
      · obtain ⟨k, hk, hg⟩ := hFn g hg; exact (hM.mine k g hg).1
      · exact .inr (Nat.le_trans hM.kept.size hg)
    have hsame : ∀ g, g < M.w.heap.size → g ∉ E0.Ft → M'.w.heap[g]? = M.w.heap[g]? := fun g h1 h2 => by have := m1.kept.block g (by rw [hW]; exact h1) h2; rwa [hW] at this
    have happ : ∀ k k', k ∉ ks → ∀ g, g ∈ M.top k ++ M.nest k → g ∉ M'.top k' ++ M'.nest k' := fun k k' hk g hg hg' => by
      obtain ⟨q1, q2⟩ := hext k hk g hg
      rcases hmine k' g hg' with h | h
      · exact q1 h
      · omega
    have hfresh : ∀ k, k ∉ ks → M'.ρ k = none ∧ M'.top k = [] ∧ M'.nest k = [] := fun k hk => m1.fresh k (m3 k hk)
    generalize hM1 : ({ w := M'.w, ρ := fun k => if k ∈ ks then M'.ρ k else M.ρ k, top := fun k => if k ∈ ks then M'.top k else M.top k, nest := fun k => if k ∈ ks then M'.nest k else M.nest k, hp := fun k => if k ∈ ks then M'.hp k else M.hp k } : Mem) = M1
    have hw1 : M1.w = M'.w := by rw [← hM1]
    have hin : ∀ k, k ∈ ks → M1.ρ k = M'.ρ k ∧ M1.top k = M'.top k ∧ M1.nest k = M'.nest k ∧ M1.hp k = M'.hp k := fun k hk => by rw [← hM1]; simp [hk]
    have hout : ∀ k, k ∉ ks → M1.ρ k = M.ρ k ∧ M1.top k = M.top k ∧ M1.nest k = M.nest k ∧ M1.hp k = M.hp k := fun k hk => by rw [← hM1]; simp [hk]
    have hρ' : ∀ k rb, M'.ρ k = some rb → M1.ρ k = some rb := fun k rb h => by
      by_cases hk : k ∈ ks
      · rw [(hin k hk).1]; exact h
      · rw [(hfresh k hk).1] at h; cases h
    have hρ : ∀ k rb, M.ρ k = some rb → M1.ρ k = some rb := fun k rb h => by
      by_cases hk : k ∈ ks
      · rw [(hin k hk).1]; exact m2.ρ k rb (by rw [← hM0]; simpa [hk] using h)
      · rw [(hout k hk).1]; exact h
    have hok' : ∀ g, okS E0 M' g → okS E M1 g := fun g ⟨h1, h2, h3⟩ => by
      have hm : (okS E M g ∨ g ∈ E0.Ft ++ E0.Fn) ∨ M.w.heap.size ≤ g := by
        rcases h1 with h | h | h
        · exact .inl (.inl (by rw [← hE0] at h; exact h))
        · exact .inl (.inr h)
        · rw [hW] at h; exact .inr h
      refine ⟨?_, by rw [hw1]; exact h2, fun id hid => ?_⟩
      · rcases hm with (h | h) | h
        · exact h.1
        · exact .inr (hemine g (.inl h))
        · exact .inr (hemine g (.inr h))
      · by_cases hk : id ∈ ks
        · rw [(hin id hk).2.1] at hid; exact h3 id hid
        · rw [(hout id hk).2.1] at hid
          obtain ⟨q1, q2⟩ := hext id hk g (List.mem_append_left _ hid)
          rcases hm with (h | h) | h
          · exact h.2.2 id hid
          · exact q1 h
          · omega
    have hle : MemLe E M M1 := by
      refine ⟨hρ, fun g hg => ?_, fun g hg => ?_⟩
      · exact hok' g (m2.ok g (hok g hg))
      · rw [hw1, m2.same g (hok g hg), hw0]
    refine ⟨M1, hw1, ⟨fun id b hb => ?_, fun id hb => ?_, fun id hb => ?_, fun id => ?_, fun id id' hne g hg hg' => ?_, fun id g hg => ?_, fun id g hg => ?_, ?_⟩, hle, by rw [← hM1], fun v x h => by
      have := h.mono (w' := M1.w) hρ' hok' fun _ _ => by rw [hw1]
      exact this⟩
    · by_cases hk : id ∈ ks
      · obtain ⟨q1, q2, q3, q4⟩ := hin id hk
        rw [q4] at hb
        rw [q1, q2, q3]
        exact (m1.blocks id b hb).keep hρ' hok' (fun _ _ => by rw [hw1]) fun _ _ => by rw [hw1]
      · obtain ⟨q1, q2, q3, q4⟩ := hout id hk
        rw [q4] at hb
        rw [q1, q2, q3]
        refine (hM.blocks id b hb).keep hρ hle.ok hle.same fun g hg => ?_
        obtain ⟨r1, r2⟩ := hext id hk g hg
        rw [hw1]
        exact hsame g r2 fun h => r1 (List.mem_append_left _ h)
    · by_cases hk : id ∈ ks
      · obtain ⟨q1, q2, q3, q4⟩ := hin id hk
        rw [q4] at hb; rw [q1, q2, q3]; exact m1.fresh id hb
      · obtain ⟨q1, q2, q3, q4⟩ := hout id hk
        rw [q4] at hb; rw [q1, q2, q3]; exact hM.fresh id hb
    · by_cases hk : id ∈ ks
      · obtain ⟨q1, q2, q3, q4⟩ := hin id hk
        rw [q4] at hb; rw [q2, q3]; exact m1.ended id hb
      · obtain ⟨q1, q2, q3, q4⟩ := hout id hk
        rw [q4] at hb; rw [q2, q3]; exact hM.ended id hb
    · by_cases hk : id ∈ ks
      · rw [(hin id hk).2.1, (hin id hk).2.2.1]; exact m1.nodup id
      · rw [(hout id hk).2.1, (hout id hk).2.2.1]; exact hM.nodup id
    · by_cases hk : id ∈ ks <;> by_cases hk' : id' ∈ ks
      · rw [(hin id hk).2.1, (hin id hk).2.2.1] at hg; rw [(hin id' hk').2.1, (hin id' hk').2.2.1] at hg'
        exact m1.apart id id' hne g hg hg'
      · rw [(hin id hk).2.1, (hin id hk).2.2.1] at hg; rw [(hout id' hk').2.1, (hout id' hk').2.2.1] at hg'
        exact happ id' id hk' g hg' hg
      · rw [(hout id hk).2.1, (hout id hk).2.2.1] at hg; rw [(hin id' hk').2.1, (hin id' hk').2.2.1] at hg'
        exact happ id id' hk g hg hg'
      · rw [(hout id hk).2.1, (hout id hk).2.2.1] at hg; rw [(hout id' hk').2.1, (hout id' hk').2.2.1] at hg'
        exact hM.apart id id' hne g hg hg'
    · by_cases hk : id ∈ ks
      · rw [(hin id hk).2.1, (hin id hk).2.2.1] at hg
        exact ⟨hemine g (hmine id g hg), by rw [hw1]; exact (m1.mine id g hg).2⟩
      · rw [(hout id hk).2.1, (hout id hk).2.2.1] at hg
        exact ⟨(hM.mine id g hg).1, by rw [hw1]; exact Nat.lt_of_lt_of_le (hM.mine id g hg).2 hsz⟩
    · by_cases hk : id ∈ ks
      · rw [(hin id hk).2.1] at hg
        rcases m1.mineT id g hg with h | h
        · obtain ⟨k, _, h⟩ := hFt g h; exact hM.mineT k g h
        · rw [hW] at h; exact .inr (Nat.le_trans hM.kept.size h)
      · rw [(hout id hk).2.1] at hg; exact hM.mineT id g hg
    · rw [hw1]
      have hk := m1.kept
      rw [hW] at hk
      refine ⟨hk.os.trans hM.kept.os, hk.tape.trans hM.kept.tape, hk.output.trans hM.kept.output, Nat.le_trans hM.kept.size hk.size, fun g hg hF => ?_⟩
      refine (hk.block g (Nat.lt_of_lt_of_le hg hM.kept.size) fun h => ?_).trans (hM.kept.block g hg hF)
      obtain ⟨k, _, h⟩ := hFt g h
      rcases hM.mineT k g h with h | h
      · exact hF h
      · omega
theorem opG_eff {cfg : Cfg} (hT : Zx P cfg.tab) (hS : Zbh P cfg.tab cfg.sums) {fns : Fns} (hf : ZhR P fns) {E : Entry} {rec : RunC} (hrec : ∀ E, RecOk P cfg.tab E rec) {dr : Bool} {o : Oper} {s s1 : St} {r : Rec} (h : opG cfg fns rec dr o s = some (s1, r))
    (hfr : ∀ id, s.nid ≤ id → s.heap id = none) : EffX P cfg.tab E o s s1 r := by
  have fresh1 : ∀ {Ef : Eff} {log : List Nat}, s1.F = ZaM s.F ⟨o.dst, Ef.v, Ef.upd, log⟩ → s1.nid = ZcM s.nid Ef.upd → ∀ id, s1.nid ≤ id → s1.heap id = none := fun {Ef log} h1 h2 id hid => by
    have := Zir (F := s.F) (e := ⟨o.dst, Ef.v, Ef.upd, log⟩) hfr id (by rw [h2] at hid; exact hid)
    have e : s1.heap = s1.F.hp := rfl
    rw [e, h1]; exact this
  have plain : Zd4 cfg o s = some (s1, r) → EffX P cfg.tab E o s s1 r := fun h => by
    obtain ⟨Ef, h1, h2, h3, h4, h5, h6⟩ := Zou h
    refine ⟨Ef, h2, h3, h6, fresh1 h2 h5, fun F' hx hlog _ hmo M a hM hhp hsl Q => ?_⟩
    refine ZmP hT hS hM hsl (nid := s.nid) (log := r.log) ?_ (fun id hid hge => ?_) Q
    · rw [Zjy cfg s.nid o hx, hhp]
      exact Zjx _ _ _ _ _ _ _ _ h1 hlog
    · rw [hhp, hmo id (by rw [h3]; exact hid)]; exact hfr id hge
  have stepped : ∀ (m : RM Eff), Local m → rmG o s m = some (s1, r) → (∀ F' : Fs, (∀ x ∈ o.op.operands, ev F'.sl x = s.ev x) → ∀ (M : Mem) (a : Act), MemOk cfg.tab E M → Slots cfg.tab E M F'.sl a → M.hp s.nid = none → ∀ Ef log, m M.hp = some (Ef, log) →
      ∃ M' val, (execOp a.eval o).run P M.w = .ok (.value val) M'.w ∧ StepOk cfg.tab E M Ef val M') → (∀ Ef log, m s.heap = some (Ef, log) → s.nid ∈ Ef.upd.map (·.1)) → EffX P cfg.tab E o s s1 r := fun m hl h hm hk => by
    obtain ⟨Ef, h1, h2, h3, h4, h5, h6⟩ := Zou h
    refine ⟨Ef, h2, h3, h6, fresh1 h2 h5, fun F' hx hlog _ hmo M a hM hhp hsl Q => ?_⟩
    have hn : M.hp s.nid = none := by rw [hhp, hmo _ (by rw [h3]; exact hk _ _ h1)]; exact hfr _ (Nat.le_refl _)
    exact ZdI (hm F' hx M a hM hsl hn Ef r.log (by rw [hhp]; exact hl _ _ _ _ h1 hlog))
  unfold opG at h
  split at h
  · rename_i c hop
    split at h
    · rename_i f hcal
      split at h
      · rename_i g caps hg
        split at h
        · rename_i fn hfn
          obtain ⟨f1, f2, f3⟩ := hf g fn hfn
          unfold callG at h
          split at h
          · cases h
          · rename_i cd hb
            rw [Zo6] at h
            cases hle : (Nat.ble (c.args.toList.map (sft s.ev) ++ caps).length fn.ntmps && (!dr || Zhp s.hp (c.args.toList.map (sft s.ev) ++ caps))) with
            | false => rw [hle] at h; cases h
            | true =>
            rw [hle, cond_true] at h
            rw [Bool.and_eq_true] at hle
            obtain ⟨hle, hcl⟩ := hle
            have hlen := Nat.le_of_ble_eq_true hle
            split at h
            · cases h
            · rename_i e s' hne hr
              split at h
              · rename_i vs l cs hres
                obtain ⟨hcs, h⟩ := Zej h
                simp only [Option.some.injEq, Prod.mk.injEq] at h
                obtain ⟨rfl, rfl⟩ := h
                have hcall : ∀ F' : Fs, (∀ x ∈ o.op.operands, ev F'.sl x = s.ev x) → ∀ (M : Mem) (a : Act), MemOk cfg.tab E M → M.hp = F'.hp → Slots cfg.tab E M F'.sl a → ∀ (E0 : Entry) (M0 : Mem), M0.w = M.w → MemOk cfg.tab E0 M0 → M0.hp = s.heap → (∀ v x, (dr = true → okI (s.hp.map (·.1)) v = true) → M.Rs cfg.tab E v x → M0.Rs cfg.tab E0 v x) →
                    ∀ K : Act → World → Prop, (∀ M' val, MemOk cfg.tab E0 M' → MemLe E0 M0 M' → M'.hp = s'.heap → M'.Rs cfg.tab E0 (Zge vs) val → K (a.put o.dst val) M'.w) → ∀ Q, o.wp P a M.w K Q := by
                  intro F' hx M a hM hhp hsl E0 M0 hw0 hM0 hhp0 hrs0 K hK Q
                  have hsf : ∀ x ∈ o.op.operands, sft (ev F'.sl) x = sft s.ev x := fun x hx' => by unfold sft; rw [hx x hx']
                  have hop' : ∀ x, x ∈ c.operands → x ∈ o.op.operands := fun x hx' => by rw [hop]; exact hx'
                  have hfv := Zax hsl f
                  rw [hsf f (hop' f (by simp [Call.operands, hcal])), hg] at hfv
                  obtain ⟨vals, hfe, hl, hj⟩ := hfv.fn_inv
                  have hra := (ZgQ hsl c.args.toList).append (ys := caps) (us := vals) ⟨hl, hj⟩
                  have hargs : c.args.toList.map (sft (ev F'.sl)) = c.args.toList.map (sft s.ev) := List.map_congr_left fun x hx' => hsf x (hop' x (by simp [Call.operands, hcal]; exact .inr (by simpa using hx')))
                  rw [hargs] at hra
                  have hra : RsL cfg.tab M0.w (okS E0 M0) M0.ρ (c.args.toList.map (sft s.ev) ++ caps) (c.args.toList.map a.eval ++ vals) := ⟨hra.1, fun j hj => hrs0 _ _ (fun hd => by
                    rw [hd, Bool.not_true, Bool.false_or, Zhp, Bool.and_eq_true, List.all_eq_true, List.all_eq_true] at hcl
                    rw [Zcm _ _ _ hj]
                    exact hcl.2 _ (List.getElem_mem hj)) (hra.2 j hj)⟩
                  generalize hvs : c.args.toList.map a.eval ++ vals = avs at hra
                  generalize has : c.args.toList.map (sft s.ev) ++ caps = aw at *
                  have hrun : (execOp a.eval o).run P M.w = .ok (.enter g avs.toArray) M.w := by
                    simp only [execOp, hop, resolve, hcal, Deferred.ofValue, hfe, Sem.run_bind, Sem.run_pure, Result.andThen_ok, invoke]
                    rw [ZlJ ⟨fn, f1, f2, by rw [hb]; rfl⟩]
                    rw [← hvs]; simp
                  simp only [Oper.wp, hrun, Oper.upon]
                  refine calls_of_wp f1 hb ?_
                  have hsz : (avs.toArray ++ Array.replicate (fn.ntmps - avs.toArray.size) undef).size = fn.ntmps := by
                    have := hra.1
                    simp; omega
                  have hR0 : Rel cfg.tab E0 fn.ntmps [] M0 { sl := Zci 0 aw, hp := s.hp, nid := s.nid, lent := [] } { tmps := avs.toArray ++ Array.replicate (fn.ntmps - avs.toArray.size) undef, defers := [] } := by
                    refine ⟨⟨hM0, .refl _ _, hhp0, fun u => ?_⟩, .nil, hfr, hsz, rfl⟩
                    have : (St.F { sl := Zci 0 aw, hp := s.hp, nid := s.nid, lent := [] }).sl u = aw.getD u .dead := by
                      show (look (Zci 0 _) u).getD .dead = _
                      rw [Zfy]; simp
                    rw [this]
                    by_cases hu : u < aw.length
                    · have hv := hra.2 u hu
                      have he : ({ tmps := avs.toArray ++ Array.replicate (fn.ntmps - avs.toArray.size) undef, defers := [] } : Act).eval (.tmp u) = avs.getD u undef := by
                        have hl : u < avs.length := by rw [hra.1]; exact hu
                        simp [Act.eval, Array.getElem?_append, hl, List.getD]
                      rw [he]; exact hv
                    · have : aw.getD u .dead = .dead := by simp [List.getD, List.getElem?_eq_none (Nat.le_of_not_lt hu)]
                      rw [this]; exact .tree (.dead _)
                  rw [← hw0]
                  refine (hrec E0 cd _ e s' hr).2 fn.ntmps [] (f3 cd hb) M0 _ hR0 _ fun M' a' hR' hle' => ?_
                  have hpost : a'.defers = [] ∧ ∃ v, (results fn a'.tmps).run P M'.w = .ok v M'.w ∧ K (a.put o.dst v) M'.w := by
                    refine ⟨hR'.defers, ?_⟩
                    have hq : ZeV cfg.tab s' fn.results.toList M'.hp = some (vs, l) := by
                      rw [hR'.rel.hp]; exact rm_at.2 ⟨cs, hres, hcs⟩
                    obtain ⟨val, k1, k2⟩ := ZjC hT hR'.rel.mem hR'.rel.slots hq
                    exact ⟨val, k1, hK M' val hR'.rel.mem hle' hR'.rel.hp k2⟩
                  cases e with
                  | normal => exact hpost
                  | ret => exact hpost
                  | exit id => exact (hne id rfl).elim
                have hkeys : ∃ l, s'.hp = l ++ s.hp := (hrec E cd _ e s' hr).1.1
                obtain ⟨nl, hnl⟩ := hkeys
                have htk : s'.hp.take (s'.hp.length - s.hp.length) = nl := by rw [hnl, List.length_append, Nat.add_sub_cancel]; simp
                rw [htk]
                have hup : ∀ i, ZW s.heap nl.reverse i = s'.heap i := fun i => by
                  rw [Zi5]; show _ = look s'.hp i
                  rw [hnl, ZnZ]; cases look nl i <;> rfl
                have hup' : ZW s.heap nl.reverse = s'.heap := funext hup
                refine ⟨⟨Zge vs, nl.reverse⟩, ?_, rfl, rfl, (hrec E cd _ e s' hr).1.2 hfr, fun F' hx hlg hall hmo M a hM hhp hsl Q => ?_⟩
                · simp only [ZaM, Fs.mk.injEq, St.F]
                  refine ⟨?_, hup'.symm⟩
                  funext t
                  cases hdst : o.dst with
                  | none => simp only [Zf4]; rfl
                  | some d =>
                    show (look ((d, Zge vs) :: s.sl) t).getD .dead = _
                    simpa [Zf4] using ZeW s d (Zge vs) t
                · have same : F'.hp = s.heap → o.wp P a M.w (OpOk cfg.tab E M o a ⟨Zge vs, nl.reverse⟩) Q := fun hF' => by
                    refine hcall F' hx M a hM hhp hsl E M rfl hM (hhp.trans hF') (fun _ _ _ h => h) _ (fun M' val k1 k2 k3 k4 => ?_) Q
                    exact ⟨M', val, rfl, rfl, k1, k2, by rw [k3, hhp, hF', hup'], k4⟩
                  cases hd : dr with
                  | false => exact same (hall (by rw [hd]; rfl))
                  | true =>
                    have hcl' := hcl
                    rw [hd, Bool.not_true, Bool.false_or, Zhp, Bool.and_eq_true, List.all_eq_true, List.all_eq_true] at hcl'
                    have hks : ∀ k, k ∈ s'.hp.map (·.1) ↔ look s'.hp k ≠ none := fun k => ZjT k
                    have hmo' : ∀ k, k ∈ s'.hp.map (·.1) → M.hp k = s.heap k := fun k hk => by
                      rw [hhp]
                      rw [hnl, List.map_append, List.mem_append] at hk
                      exact hk.elim (fun hk => hmo k (by simpa using hk)) fun hk => hlg k hk
                    have hsub : ∀ k, k ∈ s.hp.map (·.1) → k ∈ s'.hp.map (·.1) := fun k hk => by rw [hnl, List.map_append]; exact List.mem_append_right _ hk
                    have hnone : ∀ k, k ∉ s'.hp.map (·.1) → s.heap k = none := fun k hk => by
                      cases hq : s.heap k with
                      | none => rfl
                      | some b => exact absurd (hsub k ((ZjT k).2 (by show s.heap k ≠ none; rw [hq]; simp))) hk
                    obtain ⟨E0, M0, g1, g2, g3, g4, g5⟩ := frame hM (s'.hp.map (·.1)) (s.hp.map (·.1)) hsub fun k b hk hb => by
                      rw [hmo' k hk] at hb
                      exact hcl'.1 _ (look_mem hb)
                    refine hcall F' hx M a hM hhp hsl E0 M0 g1 g2 ?_ (fun v x hv h => g4 v x (hv hd) h) _ (fun M' val k1 k2 k3 k4 => ?_) Q
                    · rw [g3]; funext k
                      split
                      · rename_i hk; exact hmo' k hk
                      · rename_i hk; exact (hnone k hk).symm
                    · obtain ⟨M1, q1, q2, q3, q4, q5⟩ := g5 M' k1 k2 (fun k hk => by
                        rw [k3]
                        cases hq : look s'.hp k with
                        | none => exact hq
                        | some b => exact absurd ((hks k).2 (by rw [hq]; simp)) hk)
                      refine ⟨M1, val, rfl, q1, q2, q3, ?_, q5 _ _ k4⟩
                      rw [q4]; funext k
                      split
                      · rename_i hk
                        rw [k3, ← hup k, Zi5, Zi5, hmo' k hk]
                      · rename_i hk
                        rw [Zi5]
                        cases hq : look nl k with
                        | none => rfl
                        | some b => exact absurd (by rw [hnl, List.map_append]; exact List.mem_append_left _ ((ZjT k).2 (by rw [hq]; simp))) hk
              · cases h
            · cases h
        · exact plain h
      · cases h
    · rename_i hcal
      split at h
      · rename_i t t2 x y ht hx
        cases hp : ZfL cfg.tab t with
        | false => rw [hp] at h; exact plain h
        | true =>
          rw [hp] at h
          refine stepped _ (Local.appendG _ _ _ _ _ _) h (fun F' hxs M a hM hsl hn Ef log he => ?_) fun Ef log he => ZnY he
          have hin : ∀ z ∈ c.args.toList, sft (ev F'.sl) z = sft s.ev z := fun z hz => by
            unfold sft; rw [hxs z (by rw [hop]; simp [Op.operands, Call.operands, hcal]; simpa using hz)]
          have e1 : c.argTypes = #[t, t2] := by rw [← ht]
          have e2 : c.args = #[x, y] := by rw [← hx]
          obtain ⟨M', val, k1, k2⟩ := Zmk (ot := o.type) hT hM hn (by rw [← hin x (by simp [e2])]; exact Zax hsl x) (by rw [← hin y (by simp [e2])]; exact Zax hsl y) he
          refine ⟨M', val, ?_, k2⟩
          simp only [execOp, hop, resolve, hcal, Sem.run_bind, Sem.run_pure, Result.andThen_ok, invoke, e1, e2]
          refine Zbf ?_
          simpa using k1
      · cases h
    · exact plain h
  · rename_i t n pp hop
    cases hp : ZfL cfg.tab t with
    | false => rw [hp] at h; exact plain h
    | true =>
      rw [hp, cond_true] at h
      split at h
      · rename_i x hpp
        refine stepped _ (Local.buildG _ _ _ _) h (fun F' hxs M a hM hsl hn Ef log he => ?_) fun Ef log he => Zo7 he
        have e1 : pp = #[(0, x)] := by rw [← hpp]
        have hin : sft (ev F'.sl) x = sft s.ev x := by unfold sft; rw [hxs x (by rw [hop]; simp [Op.operands, e1])]
        obtain ⟨M', val, k1, k2⟩ := Zm4 hT hM hn (by rw [← hin]; exact Zax hsl x) he
        refine ⟨M', val, ?_, k2⟩
        simp only [execOp, hop, e1]
        refine Zbf ?_
        simpa using k1
      · cases h
  · exact plain h
def EntX (P : Program) (tab : Tab) (E : Entry) (ops : Array Oper) (o : Oper) (Fi : Fs) (e : Ent) (r : Rec) : Prop :=
  e.dst = o.dst ∧ r.mods = e.mods ∧ ∀ i, ops[i]? = some o → ∀ F' : Fs, (∀ t ∈ o.looksAt ops, F'.sl t = Fi.sl t) → (∀ k ∈ r.log, F'.hp k = Fi.hp k) → (r.all = true → F'.hp = Fi.hp) → (∀ k ∈ e.mods, F'.hp k = Fi.hp k) →
    ∀ (ρ0 M : Mem) (a : Act), RelF tab E ρ0 M F' a → (∀ d, o.dst = some d → d < a.tmps.size) → ∀ (Q : Exit → Act → World → Prop) (K : Act → World → Prop),
      (∀ M' v, RelF tab E ρ0 M' (ZaM F' e) (a.put o.dst v) → (a.put o.dst v).tmps.size = a.tmps.size → (a.put o.dst v).defers = a.defers → K (a.put o.dst v) M'.w) → wpOp P ops Q i K a M.w
def InvX (P : Program) (tab : Tab) (E : Entry) (ops : Array Oper) (l : List Oper) (s s' : St) (tr tr' : List Rec) : Prop :=
  ∃ (es : List Ent) (rs : List Rec), tr' = rs.reverse ++ tr ∧ es.length = l.length ∧ rs.length = l.length ∧ s'.F = Zac s.F es ∧ s'.lent = s.lent ∧ (∀ id, s'.nid ≤ id → s'.heap id = none) ∧
    ∀ (i : Nat) (o : Oper), l[i]? = some o → ∃ e r, es[i]? = some e ∧ rs[i]? = some r ∧ EntX P tab E ops o (Zac s.F (es.take i)) e r
theorem ZjU {cfg : Cfg} (hT : Zx P cfg.tab) (hS : Zbh P cfg.tab cfg.sums) {fns : Fns} (hf : ZhR P fns) {E : Entry} {rec : RunC} (hrec : ∀ E, RecOk P cfg.tab E rec) {dr : Bool} {ops : Array Oper} :
    ∀ (l : List Oper) (s s' : St) (tr tr' : List Rec), Zfz cfg fns rec dr ops.toList l s tr = some (s', tr') → (∀ id, s.nid ≤ id → s.heap id = none) →
      InvX P cfg.tab E ops l s s' tr tr'
  | [], s, s', tr, tr', h, hfr => by
    cases h
    exact ⟨[], [], rfl, rfl, rfl, rfl, rfl, hfr, fun i o hi => by simp at hi⟩
  | o :: l, s, s', tr, tr', h, hfr => by
    have hsz : ∀ (a : Act) v, (a.put o.dst v).tmps.size = a.tmps.size ∧ (a.put o.dst v).defers = a.defers := fun a v => by cases o.dst <;> simp [Act.put]
    have go : ∀ (e : Ent) (r : Rec) (s1 : St), s1.F = ZaM s.F e → s1.lent = s.lent → (∀ id, s1.nid ≤ id → s1.heap id = none) → EntX P cfg.tab E ops o s.F e r → Zfz cfg fns rec dr ops.toList l s1 (r :: tr) = some (s', tr') → InvX P cfg.tab E ops (o :: l) s s' tr tr' := fun e r s1 h1 h2 h3 h4 h5 => by
      obtain ⟨es, rs, k1, k2, k3, k4, k5, k6, k7⟩ := ZjU hT hS hf hrec l s1 s' _ _ h5 h3
      refine ⟨e :: es, r :: rs, by simp [k1], by simp [k2], by simp [k3], by rw [k4, h1]; rfl, k5.trans h2, k6, fun i o' hi => ?_⟩
      cases i with
      | zero => simp at hi; subst hi; exact ⟨e, r, rfl, rfl, h4⟩
      | succ i =>
        obtain ⟨e', r', q1, q2, q3⟩ := k7 i o' (by simpa using hi)
        rw [h1] at q3
        exact ⟨e', r', by simpa using q1, by simpa using q2, q3⟩
    have wcong : ∀ F' : Fs, (∀ t ∈ o.looksAt ops, F'.sl t = s.F.sl t) → Zbt ops.toList F' o = Zbt ops.toList s.F o := fun F' hsl => by
      unfold Zbt
      cases hg : o.guard with
      | none => rfl
      | some gw =>
        obtain ⟨g, want⟩ := gw
        simp only []
        cases ht : (ops.toList[g]?).bind (·.dst) with
        | none => rfl
        | some t =>
          simp only []
          rw [hsl t]
          unfold Oper.looksAt
          rw [hg]
          refine List.mem_append_right _ ?_
          simp only []
          rw [Array.getElem?_toList] at ht
          simp [ht]
    have run : Zbt ops.toList s.F o = some true → (match opG cfg fns rec dr o s with | some (s, x) => Zfz cfg fns rec dr ops.toList l s (x :: tr) | none => none) = some (s', tr') → InvX P cfg.tab E ops (o :: l) s s' tr tr' := fun hw h => by
      split at h
      · rename_i s1 r h1
        obtain ⟨Ef, q1, q2, q3, q4, q5⟩ := opG_eff hT hS hf hrec h1 hfr
        refine go ⟨o.dst, Ef.v, Ef.upd, r.log⟩ r s1 q1 q3 q4 ⟨rfl, q2, fun i ho F' hsl hlog hall hmo ρ0 M a hR hd Q K hK => ?_⟩ h
        unfold wpOp
        simp only [ho]
        rw [Zit hR (ops := ops) (o := o) true ((wcong F' hsl).trans hw), if_pos rfl]
        refine .inl (Oper.wp_mono (K := OpOk cfg.tab E M o a Ef) ?_ (q5 F' (fun x hx => ?_) hlog hall (fun k hk => hmo k (by rw [q2] at hk; exact hk)) M a hR.mem hR.hp hR.slots Q))
        · rintro a' w' ⟨M', val, rfl, rfl, hst⟩
          refine hK M' val ⟨hst.mem, hR.le.trans hst.le, ?_, ?_⟩ (hsz a _).1 (hsz a _).2
          · rw [hst.hp, hR.hp]; rfl
          · exact Slots.put (fun t => hst.le.rs (hR.slots t)) hd hst.val
        · cases x with
          | tmp t => exact hsl t (List.mem_append_left _ (List.mem_filterMap.2 ⟨.tmp t, by simpa using hx, rfl⟩))
          | _ => rfl
      · cases h
    have skip : Zbt ops.toList s.F o = some false → Zfz cfg fns rec dr ops.toList l (s.put o.dst .sk) (⟨[], [], false⟩ :: tr) = some (s', tr') → InvX P cfg.tab E ops (o :: l) s s' tr tr' := fun hw h => by
      refine go ⟨o.dst, .sk, [], []⟩ ⟨[], [], false⟩ _ (put_F s o.dst .sk) (by cases o.dst <;> rfl) (by cases o.dst <;> exact hfr) ⟨rfl, rfl, fun i ho F' hsl hlog hall hmo ρ0 M a hR hd Q K hK => ?_⟩ h
      unfold wpOp
      simp only [ho]
      rw [Zit hR (ops := ops) (o := o) false ((wcong F' hsl).trans hw), if_neg (by simp)]
      exact hK M undef ⟨hR.mem, hR.le, by rw [hR.hp]; rfl, Slots.put hR.slots hd (.tree .sk)⟩ (hsz a _).1 (hsz a _).2
    unfold Zfz at h
    simp only [opF_eq] at h
    split at h
    · rename_i hg
      exact run (by simp [Zbt, hg]) h
    · rename_i j want hg
      split at h
      · cases h
      · rename_i t ht
        split at h
        · rename_i b hb
          have hw : Zbt ops.toList s.F o = some (b == want) := by
            have : s.F.sl t = .bool b := hb
            unfold Zbt; rw [hg]; simp only []; rw [ht]; simp only [this]
          cases hbw : (b == want) with
          | true => rw [hbw] at h hw; exact run hw h
          | false => rw [hbw] at h hw; exact skip hw h
        · rename_i hb
          exact skip (by
            have : s.F.sl t = .sk := hb
            unfold Zbt; rw [hg]; simp only []; rw [ht]; simp only [this]) h
        · cases h
theorem seqX {E : Entry} {ops : Array Oper} {ρ0 : Mem} {F : Fs} {es : List Ent} {N : Nat} {D : List Deferred} {Q : Exit → Act → World → Prop} (hX : ∀ (i : Nat) (o : Oper), ops[i]? = some o → ∃ e r, es[i]? = some e ∧ EntX P tab E ops o (Zac F (es.take i)) e r) (hlen : es.length = ops.size) (hd : ∀ o ∈ ops.toList, ∀ d, o.dst = some d → d < N)
    (hK : ∀ M' a', RelF tab E ρ0 M' (Zac F es) a' → a'.tmps.size = N → a'.defers = D → Q .normal a' M'.w) :
    ∀ (m k : Nat), k + m = ops.size → ∀ (M : Mem) (a : Act), RelF tab E ρ0 M (Zac F (es.take k)) a → a.tmps.size = N → a.defers = D → wpOps P ops Q (List.range' k m) a M.w
  | 0, k, hk, M, a, hR, h1, h2 => by
    rw [List.take_of_length_le (by omega)] at hR
    exact hK M a hR h1 h2
  | m + 1, k, hk, M, a, hR, h1, h2 => by
    rw [List.range'_succ, wpOps_cons]
    have hkl : k < ops.size := by omega
    have ho : ops[k]? = some ops[k] := Array.getElem?_eq_getElem hkl
    obtain ⟨e, r, q1, q2, q3, q4⟩ := hX k _ ho
    refine q4 k ho _ (fun _ _ => rfl) (fun _ _ => rfl) (fun _ => rfl) (fun _ _ => rfl) ρ0 M a hR (fun d hd' => by rw [h1]; exact hd _ (by simp) d hd') Q _ fun M' v hR' h3 h4 => ?_
    refine seqX hX hlen hd hK m (k + 1) (by omega) M' _ ?_ (h3.trans h1) (h4.trans h2)
    have : es.take (k + 1) = es.take k ++ [e] := by rw [List.take_add_one, q1]; rfl
    rw [this, Zac, List.foldl_append]
    exact hR'
theorem Zn0 (u : List (Nat × Option Blk)) : ∀ h : List (Nat × Option Blk), ∃ l, Zhh h u = l ++ h := by
  induction u with
  | nil => exact fun h => ⟨[], rfl⟩
  | cons p u ih => exact fun h => by obtain ⟨l, hl⟩ := ih (p :: h); exact ⟨l ++ [p], by rw [Zhh, hl]; simp⟩
theorem opG_keys {cfg : Cfg} {fns : Fns} {rec : RunC} (hrec : ∀ c s e s', rec c s = some (e, s') → Keys s s') {dr : Bool} {o : Oper} {s s1 : St} {r : Rec} (h : opG cfg fns rec dr o s = some (s1, r)) : Keys s s1 := by
  have hrm : ∀ {m : RM Eff}, rmG o s m = some (s1, r) → Keys s s1 := fun h => by
    unfold rmG at h
    split at h
    · obtain ⟨_, h⟩ := Zej h
      cases h
      exact Zn0 _ _
    · cases h
  have hpl : Zd4 cfg o s = some (s1, r) → Keys s s1 := fun h => hrm h
  unfold opG at h
  split at h
  · split at h
    · split at h
      · split at h
        · unfold callG at h
          split at h
          · cases h
          · cases hle : (Nat.ble (_ : Nat) (_ : Nat) && (_ : Bool)) <;> rw [hle] at h
            · cases h
            · rw [cond_true] at h
              split at h
              · cases h
              · rename_i hr
                split at h
                · obtain ⟨_, h⟩ := Zej h
                  cases h
                  obtain ⟨l, hl⟩ := hrec _ _ _ _ hr
                  exact ⟨l, hl⟩
                · cases h
              · cases h
        · exact hpl h
      · cases h
    · split at h
      · cases hp : ZfL cfg.tab _ <;> rw [hp] at h
        · exact hpl h
        · exact hrm h
      · cases h
    · exact hpl h
  · cases hp : ZfL cfg.tab _ <;> rw [hp] at h
    · exact hpl h
    · rw [cond_true] at h
      split at h
      · exact hrm h
      · cases h
  · exact hpl h
theorem Keys.trans {s s1 s2 : St} (h : Keys s s1) (k : Keys s1 s2) : Keys s s2 := by
  obtain ⟨l, h⟩ := h; obtain ⟨l', k⟩ := k
  exact ⟨l' ++ l, by rw [k, h, List.append_assoc]⟩
theorem ZgS {cfg : Cfg} {fns : Fns} {rec : RunC} (hrec : ∀ c s e s', rec c s = some (e, s') → Keys s s') {dr : Bool} {all : List Oper} : ∀ (l : List Oper) (s s' : St) (tr tr' : List Rec), Zfz cfg fns rec dr all l s tr = some (s', tr') → Keys s s'
  | [], s, s', tr, tr', h => by cases h; exact ⟨[], rfl⟩
  | o :: l, s, s', tr, tr', h => by
    have hput : Keys s (s.put o.dst .sk) := by cases o.dst <;> exact ⟨[], rfl⟩
    have run : (match opG cfg fns rec dr o s with | some (s, x) => Zfz cfg fns rec dr all l s (x :: tr) | none => none) = some (s', tr') → Keys s s' := fun h => by
      split at h
      · rename_i h1
        exact (opG_keys hrec h1).trans (ZgS hrec l _ s' _ _ h)
      · cases h
    unfold Zfz at h
    simp only [opF_eq] at h
    split at h
    · exact run h
    · rename_i want _
      split at h
      · cases h
      · split at h
        · rename_i b _
          cases hb : (b == want) <;> rw [hb] at h
          · exact hput.trans (ZgS hrec l _ s' _ _ h)
          · exact run h
        · exact hput.trans (ZgS hrec l _ s' _ _ h)
        · cases h
theorem Zm5 {E : Entry} {N : Nat} {ps : List (V × Value)} {M : Mem} {s : St} {a : Act} (h : Rel tab E N ps M s a) (keep : List Nat) : ∃ M', M'.w = M.w ∧ Rel tab E N ps M' (canonG keep s) a := by
  have hcl : ∀ (n : Nat) (ids : List Nat), ids.Nodup → (∀ i ∈ s.lent, i ∈ ids) → (ZkQ s.hp n ids).Nodup ∧ ∀ i ∈ s.lent, i ∈ ZkQ s.hp n ids := by
    intro n
    induction n with
    | zero => exact fun ids h1 h2 => ⟨h1, h2⟩
    | succ n ih => exact fun ids h1 h2 => ih _ (ZcY h1) fun i hi => Zdo (.inl (h2 i hi))
  obtain ⟨hn, hin⟩ := hcl 4 _ (ZcY (r := keep.flatMap fun t => idsV (s.slot t)) (ZcY (r := s.lent) List.nodup_nil)) fun i hi => Zdo (.inl (Zdo (.inr hi)))
  exact Zh8 h keep hn hin
theorem ZfM {cfg : Cfg} (hT : Zx P cfg.tab) (hS : Zbh P cfg.tab cfg.sums) (hmix : P.follows .mixedOrders = true) {fns : Fns} (hf : ZhR P fns) {E : Entry} :
    ∀ (n : Nat) (cn : ZeA) (c : Code) (s : St) (e : Ex) (s' : St), Zi4 cfg fns n cn c s = some (e, s') → ((∀ k, cn k = none) → Keys s s' ∧ (ZeB s → ZeB s')) ∧ ∀ N ps, ZaW N c = true → ∀ M a, Rel cfg.tab E N ps M s a → ∀ Q : Exit → Act → World → Prop,
      (∀ M' a', Rel cfg.tab E N ps M' s' a' → ((∀ k, cn k = none) → MemLe E M M') → Q (ZfW e) a' M'.w) → c.wp P Q a M.w
  | 0, cn, c, s, e, s', h => by cases h
  | n + 1, cn, c, s, e, s', h => by
    have ih := ZfM hT hS hmix hf (E := E) n
    have hrec : ∀ E, RecOk P cfg.tab E (Zi4 cfg fns n fun _ => none) := fun E c s e s' h => have ih := ZfM hT hS hmix hf (E := E) n; ⟨(ih _ c s e s' h).1 fun _ => rfl, fun N ps hc M a hR Q hQ => (ih _ c s e s' h).2 N ps hc M a hR Q fun M' a' h1 h2 => hQ M' a' h1 (h2 fun _ => rfl)⟩
    have hid : Keys s s ∧ (ZeB s → ZeB s) := ⟨⟨[], rfl⟩, id⟩
    have htr : ∀ {s1 s2 : St}, (Keys s s1 ∧ (ZeB s → ZeB s1)) → (Keys s1 s2 ∧ (ZeB s1 → ZeB s2)) → Keys s s2 ∧ (ZeB s → ZeB s2) := fun h1 h2 => ⟨h1.1.trans h2.1, fun h => h2.2 (h1.2 h)⟩
    change Zgf cfg fns (Zi4 cfg fns n) cn c s = some (e, s') at h
    cases c with
    | skip => cases h; exact ⟨fun _ => hid, fun N ps hc M a hR Q hQ => wp_skip (hQ M a hR fun _ => .refl _ _)⟩
    | label l => cases h; exact ⟨fun _ => hid, fun N ps hc M a hR Q hQ => wp_label (hQ M a hR fun _ => .refl _ _)⟩
    | exit id => cases h; exact ⟨fun _ => hid, fun N ps hc M a hR Q hQ => wp_exit (hQ M a hR fun _ => .refl _ _)⟩
    | ret => cases h; exact ⟨fun _ => hid, fun N ps hc M a hR Q hQ => wp_ret (hQ M a hR fun _ => .refl _ _)⟩
    | region rid ops draw =>
      simp only [Zgf] at h
      split at h
      · rename_i s1 tr h1
        cases hok : (!draw || (ZdZ tr || ZcU (CheckFast.beforeF ops).toList 0 tr.reverse)) with
        | false => rw [hok] at h; cases h
        | true =>
        rw [hok] at h
        cases h
        refine ⟨fun _ => ⟨ZgS (fun c s e s' h => ((hrec E) c s e s' h).1.1) _ _ _ _ _ h1, fun hfr => ?_⟩, fun N ps hc M a hR Q hQ => ?_⟩
        · obtain ⟨es, rs, -, -, -, -, -, k6, -⟩ := ZjU (E := E) hT hS hf hrec _ _ _ _ _ h1 hfr
          exact k6
        · simp only [ZaW, Bool.and_eq_true, List.all_eq_true] at hc
          obtain ⟨hd, hp⟩ := hc
          have hdst : ∀ o ∈ ops.toList, ∀ d, o.dst = some d → d < N := fun o ho d hd' => by
            have := hd o ho
            rw [hd'] at this
            simpa using this
          obtain ⟨es, rs, k1, k2, k3, k4, k5, k6, k7⟩ := ZjU hT hS hf hrec _ _ _ _ _ h1 hR.fresh
          have hX : ∀ (i : Nat) (o : Oper), ops[i]? = some o → ∃ e r, es[i]? = some e ∧ rs[i]? = some r ∧ EntX P cfg.tab E ops o (Zac s.F (es.take i)) e r := fun i o ho => k7 i o (by simpa using ho)
          have hfin : ∀ M' a', RelF cfg.tab E M M' (Zac s.F es) a' → a'.tmps.size = N → a'.defers = [] → Q .normal a' M'.w := fun M' a' hR' q1 q2 =>
            hQ M' a' ⟨⟨hR'.mem, .refl _ _, by rw [k4]; exact hR'.hp, by rw [k4]; exact hR'.slots⟩, by rw [k5]; exact hR.lent.mono hR'.le.ρ, k6, q1, q2⟩ fun _ => hR'.le
          cases draw with
          | false =>
            refine wp_region ?_
            have := seqX (fun i o ho => by obtain ⟨e, r, q1, -, q2⟩ := hX i o ho; exact ⟨e, r, q1, q2⟩) (by simpa using k2) hdst hfin ops.size 0 (by omega) M a hR.rel hR.size hR.defers
            simpa [List.range_eq_range'] using this
          | true =>
            simp only [Bool.not_true, Bool.false_or] at hok hp
            rw [k1, List.append_nil, List.reverse_reverse] at hok
            rw [CheckFast.beforeF_eq] at hok hp
            have hget : ∀ (j : Nat) (o : Oper) (e : Ent), ops[j]? = some o → es[j]? = some e → ∃ r, rs[j]? = some r ∧ EntX P cfg.tab E ops o (Zac s.F (es.take j)) e r := fun j o e ho hej => by
              obtain ⟨e', r, q1, q2, q3⟩ := hX j o ho
              rw [hej] at q1; cases q1; exact ⟨r, q2, q3⟩
            refine ZkK hmix hR.rel k2 (k3.trans k2.symm) (fun j o e ho hej => ?_) (fun j e r hej hrj => ?_) hp (by simpa [ZdZ] using hok) (fun i o e r ho hei hri F' hsl hlog hall hmo M' a' hR' hsz K hK => ?_) fun M' a' h1 h2 h3 => hfin M' a' h1 (h2.trans hR.size) (h3.trans hR.defers)
            · obtain ⟨r, -, q⟩ := hget j o e ho hej; exact q.1
            · have hjl : j < ops.size := by have := (List.getElem?_eq_some_iff.1 hej).1; rw [k2] at this; simpa using this
              obtain ⟨r', q1, q2⟩ := hget j _ e (Array.getElem?_eq_getElem hjl) hej
              rw [hrj] at q1; cases q1; exact q2.2.1
            · obtain ⟨r', q1, q2⟩ := hget i o e ho hei
              rw [hri] at q1; cases q1
              exact q2.2.2 i ho F' hsl hlog hall hmo M M' a' hR' (fun d hd' => by rw [hsz, hR.size]; exact hdst o (by simpa using Array.mem_of_getElem? ho) d hd') Q K hK
      · cases h
    | seq c1 c2 =>
      simp only [Zgf] at h
      split at h
      · rename_i s1 h1
        obtain ⟨a1, b1⟩ := ih cn c1 s .normal s1 h1
        obtain ⟨a2, b2⟩ := ih cn c2 s1 e s' h
        refine ⟨fun hcn => htr (a1 hcn) (a2 hcn), fun N ps hc M a hR Q hQ => ?_⟩
        simp only [ZaW, Bool.and_eq_true] at hc
        exact wp_seq (b1 N ps hc.1 M a hR _ fun M1 a1 hR1 hl1 => b2 N ps hc.2 M1 a1 hR1 Q fun M2 a2 hR2 hl2 => hQ M2 a2 hR2 fun hcn => (hl1 hcn).trans (hl2 hcn))
      · rename_i hne
        obtain ⟨a1, b1⟩ := ih cn c1 s e s' h
        refine ⟨a1, fun N ps hc M a hR Q hQ => ?_⟩
        simp only [ZaW, Bool.and_eq_true] at hc
        refine wp_seq (b1 N ps hc.1 M a hR _ fun M1 a1 hR1 hl1 => ?_)
        cases e with
        | normal => exact absurd h (hne s')
        | exit id => exact hQ M1 a1 hR1 hl1
        | ret => exact hQ M1 a1 hR1 hl1
    | cond c c1 c2 =>
      simp only [Zgf] at h
      split at h
      · rename_i t
        cases hs : s.slot t with
        | bool b =>
          rw [hs] at h
          have hv : ∀ {N ps M a}, Rel cfg.tab E N ps M s a → a.eval (.tmp t) = .bool b := fun hR => by
            have hv := hR.rel.slots t
            have hb' : s.F.sl t = .bool b := hs
            rw [hb'] at hv
            exact hv.bool
          cases b with
          | true =>
            obtain ⟨a1, b1⟩ := ih cn c1 s e s' h
            refine ⟨a1, fun N ps hc M a hR Q hQ => ?_⟩
            simp only [ZaW, Bool.and_eq_true] at hc
            exact wp_cond_true (hv hR) (b1 N ps hc.1 M a hR Q hQ)
          | false =>
            obtain ⟨a1, b1⟩ := ih cn c2 s e s' h
            refine ⟨a1, fun N ps hc M a hR Q hQ => ?_⟩
            simp only [ZaW, Bool.and_eq_true] at hc
            exact wp_cond_false (hv hR) (b1 N ps hc.2 M a hR Q hQ)
        | _ => rw [hs] at h; cases h
      · obtain ⟨a1, b1⟩ := ih cn c1 s e s' h
        refine ⟨a1, fun N ps hc M a hR Q hQ => ?_⟩
        simp only [ZaW, Bool.and_eq_true] at hc
        exact wp_cond_true rfl (b1 N ps hc.1 M a hR Q hQ)
      · obtain ⟨a1, b1⟩ := ih cn c2 s e s' h
        refine ⟨a1, fun N ps hc M a hR Q hQ => ?_⟩
        simp only [ZaW, Bool.and_eq_true] at hc
        exact wp_cond_false rfl (b1 N ps hc.2 M a hR Q hQ)
      · cases h
    | block id c1 =>
      simp only [Zgf] at h
      split at h
      · rename_i j s1 h1
        obtain ⟨a1, b1⟩ := ih cn c1 s (.exit j) s1 h1
        by_cases hj : j = id
        · subst hj
          simp only [Nat.beq_refl, cond_true, Option.some.injEq, Prod.mk.injEq] at h
          obtain ⟨rfl, rfl⟩ := h
          exact ⟨a1, fun N ps hc M a hR Q hQ => wp_block (b1 N ps hc M a hR _ fun M1 a1 hR1 hl1 => by simpa [ZfW, Exit.inBlock] using hQ M1 a1 hR1 hl1)⟩
        · have hb : Nat.beq j id = false := by
            cases hb : Nat.beq j id
            · rfl
            · exact absurd (Nat.eq_of_beq_eq_true hb) hj
          rw [hb] at h
          simp only [cond_false, Option.some.injEq, Prod.mk.injEq] at h
          obtain ⟨rfl, rfl⟩ := h
          exact ⟨a1, fun N ps hc M a hR Q hQ => wp_block (b1 N ps hc M a hR _ fun M1 a1 hR1 hl1 => by simpa [ZfW, Exit.inBlock, hj] using hQ M1 a1 hR1 hl1)⟩
      · rename_i hne
        obtain ⟨a1, b1⟩ := ih cn c1 s e s' h
        refine ⟨a1, fun N ps hc M a hR Q hQ => wp_block (b1 N ps hc M a hR _ fun M1 a1 hR1 hl1 => ?_)⟩
        cases e with
        | normal => exact hQ M1 a1 hR1 hl1
        | exit id' => exact absurd h (hne id' s')
        | ret => exact hQ M1 a1 hR1 hl1
    | loop c1 =>
      refine ⟨fun hcn => ?_, fun N ps hc M a hR Q hQ => ?_⟩
      · simp only [Zgf] at h
        split at h
        · rename_i s1 h1
          have hcl : ZkR cn (Zbl c1) s1 = s1 := by unfold ZkR; rw [hcn]
          rw [hcl] at h
          exact htr ((ih cn c1 s .normal s1 h1).1 hcn) ((ih cn (.loop c1) s1 e s' h).1 hcn)
        · exact (ih cn c1 s e s' h).1 hcn
      have hc1 : ZaW N c1 = true := hc
      refine ZlO (fun m a w => ∃ M1 s1, M1.w = w ∧ Rel cfg.tab E N ps M1 s1 a ∧ ((∀ k, cn k = none) → MemLe E M M1) ∧ m ≤ n + 1 ∧ Zi4 cfg fns m cn (.loop c1) s1 = some (e, s')) (fun a w => ?_) (fun m a w => ?_) (n := n + 1) ⟨M, s, rfl, hR, fun _ => .refl _ _, Nat.le_refl _, h⟩
      · rintro ⟨M1, s1, _, _, _, _, hr⟩
        cases hr
      · rintro ⟨M1, s1, rfl, hR1, hl1, hm, hr⟩
        have hr : Zgf cfg fns (Zi4 cfg fns m) cn (.loop c1) s1 = some (e, s') := hr
        simp only [Zgf] at hr
        have ihm := ZfM hT hS hmix hf (E := E) m
        split at hr
        · rename_i s2 h2
          refine (ihm cn c1 s1 .normal s2 h2).2 N ps hc1 M1 a hR1 _ fun M2 a2 hR2 hl2 => ?_
          have hl : (∀ k, cn k = none) → MemLe E M M2 := fun hcn => (hl1 hcn).trans (hl2 hcn)
          unfold ZkR at hr
          split at hr
          · rename_i keep hk
            obtain ⟨M3, hw3, hR3⟩ := Zm5 hR2 keep
            exact ⟨M3, _, hw3, hR3, fun hcn => (by rw [hcn] at hk; cases hk), by omega, hr⟩
          · exact ⟨M2, _, rfl, hR2, hl, by omega, hr⟩
        · rename_i hne
          refine (ihm cn c1 s1 e s' hr).2 N ps hc1 M1 a hR1 _ fun M2 a2 hR2 hl2 => ?_
          cases e with
          | normal => exact absurd hr (hne s')
          | exit id => exact hQ M2 a2 hR2 fun hcn => (hl1 hcn).trans (hl2 hcn)
          | ret => exact hQ M2 a2 hR2 fun hcn => (hl1 hcn).trans (hl2 hcn)
    | _ => cases h
termination_by n => n
theorem ZiF {cfg : Cfg} (hT : Zx P cfg.tab) (hS : Zbh P cfg.tab cfg.sums) (hmix : P.follows .mixedOrders = true) {fns : Fns} (hf : ZhR P fns) {cn : ZeA} {n : Nat} {f : FuncId} {fn : Func} {c : Code} (hfn : P.funcs[f]? = some fn) (hb : fn.body = some c)
    (hc : ZaW fn.ntmps c = true) {args : List V} (hlen : args.length ≤ fn.ntmps) {r : V × List V} (h : Zc8 cfg fns cn n fn args = some r) : SumOk P cfg.tab f args r := by
  unfold Zc8 at h
  rw [hb] at h
  simp only [] at h
  split at h
  · cases h
  · rename_i e s' hne he
    refine ZjD hT hfn hb hlen [] fun E ps => ⟨e, s', ?_, fun M a hR Q hQ => (ZfM hT hS hmix hf n cn c _ e s' he).2 _ _ hc M a hR Q fun M' a' h1 _ => hQ M' a' h1⟩
    cases e with
    | normal => exact h
    | ret => exact h
    | exit id => exact (hne id rfl).elim
  · cases h
def ZgT (P : Program) (fl : List Nat) : Fns := fun g => bif fl.contains g then P.funcs[g]? else none
def fnsB (P : Program) (fl : List Nat) : Bool := fl.all fun g => match P.funcs[g]? with
  | some fn => !(fn.name == "runtime.NumGoroutine") && (match fn.body with | some c => ZaW fn.ntmps c | none => true)
  | none => true
theorem ZiG {fl : List Nat} (h : fnsB P fl = true) : ZhR P (ZgT P fl) := by
  intro g fn hg
  unfold ZgT at hg
  cases hc : fl.contains g with
  | false => rw [hc] at hg; cases hg
  | true =>
    rw [hc] at hg
    have hg : P.funcs[g]? = some fn := hg
    have h1 := List.all_eq_true.1 h g (by simpa using hc)
    rw [hg] at h1
    simp only [Bool.and_eq_true, Bool.not_eq_true'] at h1
    refine ⟨hg, h1.1, fun c hb => ?_⟩
    have h2 := h1.2
    rw [hb] at h2; exact h2
theorem Zn1 {cfg : Cfg} (hT : Zx P cfg.tab) (hS : Zbh P cfg.tab cfg.sums) (hmix : P.follows .mixedOrders = true) {fns : Fns} (hf : ZhR P fns) {fuel : Nat} {f : FuncId} {fn : Func} {c : Code} (hfn : P.funcs[f]? = some fn) (hb : fn.body = some c)
    (hc : ZaW fn.ntmps c = true) {args : List V} (hlen : args.length ≤ fn.ntmps) {r : V × List V} (h : ZgB cfg fns fuel fn args = some r) : SumOk P cfg.tab f args r := by
  unfold ZgB at h
  split at h
  · rename_i T l
    have go : ∀ {v : V} {r : V × List V}, Zc8 cfg fns (fun _ => none) fuel fn [v] = some r → SumOk P cfg.tab f [v] r := fun h => ZiF hT hS hmix hf hfn hb hc (by simpa using hlen) h
    split at h
    · rename_i T' o l' h1
      cases hl : l.isEmpty with
      | false =>
        rw [hl] at h
        cases h
        exact ZiE (go h1) fun e => by rw [e] at hl; cases hl
      | true =>
        rw [hl, cond_true] at h
        split at h
        · rename_i T2 h2
          cases hq : (l'.isEmpty && (cfg.tab T').isSome) with
          | false => rw [hq] at h; cases h
          | true =>
            rw [hq] at h
            cases h
            simp only [Bool.and_eq_true, List.isEmpty_iff] at hq
            obtain ⟨rfl, hq⟩ := hq
            exact ZiE (go h1) fun _ => (go h2).weaken (ss := [[.rr T' o]]) (os := []) (by simpa [ZcD] using hq) rfl
        · cases h
    · cases h
  · cases h
theorem ZkT {cfg : Cfg} (hT : Zx P cfg.tab) (hS : Zbh P cfg.tab cfg.sums) (hmix : P.follows .mixedOrders = true) {fns : Fns} (hf : ZhR P fns) {fl : List Nat} (hfl : fnsB P fl = true) (cl : List Nat) (cnf : Nat → ZeA) (fuel : Nat) : ∀ n, Zbh P cfg.tab (ZeY P cfg fns fl cl cnf fuel n)
  | 0 => hS
  | n + 1 => by
    have ih := ZkT hT hS hmix hf hfl cl cnf fuel n
    intro f args r h
    have h : (match cfg.sums f args with
      | some r => some r
      | none => bif fl.contains f then match P.funcs[f]? with
          | some fn => bif Nat.ble args.length fn.ntmps then match bif cl.contains f then ZgB { cfg with sums := ZeY P cfg fns fl cl cnf fuel n } fns fuel fn args else Zc8 { cfg with sums := ZeY P cfg fns fl cl cnf fuel n } fns (cnf f) fuel fn args with
              | some r => some (true, r)
              | none => none
            else none
          | none => none
        else none) = some (true, r) := h
    split at h
    · rename_i r' hr
      cases h
      exact hS f args r hr
    · cases hc : fl.contains f with
      | false => rw [hc] at h; cases h
      | true =>
        rw [hc, cond_true] at h
        split at h
        · rename_i fn hfn
          cases hle : Nat.ble args.length fn.ntmps with
          | false => rw [hle] at h; cases h
          | true =>
            rw [hle, cond_true] at h
            obtain ⟨q1, q2, q3⟩ := ZiG hfl f fn (by unfold ZgT; rw [hc]; exact hfn)
            have hl := Nat.le_of_ble_eq_true hle
            cases hcl : cl.contains f with
            | true =>
              rw [hcl, cond_true] at h
              split at h
              · rename_i r' he
                cases h
                have hb : ∃ c, fn.body = some c := by
                  cases hb : fn.body with
                  | none =>
                    unfold ZgB at he
                    split at he
                    · unfold Zc8 at he; rw [hb] at he; cases he
                    · cases he
                  | some c => exact ⟨c, rfl⟩
                obtain ⟨c, hb⟩ := hb
                exact ⟨⟨fn, q1, q2, by rw [hb]; rfl⟩, Zn1 (cfg := { cfg with sums := ZeY P cfg fns fl cl cnf fuel n }) hT ih hmix hf q1 hb (q3 c hb) hl he⟩
              · cases h
            | false =>
              rw [hcl, cond_false] at h
              split at h
              · rename_i r' he
                cases h
                have hb : ∃ c, fn.body = some c := by
                  cases hb : fn.body with
                  | none => unfold Zc8 at he; rw [hb] at he; cases he
                  | some c => exact ⟨c, rfl⟩
                obtain ⟨c, hb⟩ := hb
                exact ⟨⟨fn, q1, q2, by rw [hb]; rfl⟩, ZiF (cfg := { cfg with sums := ZeY P cfg fns fl cl cnf fuel n }) hT ih hmix hf q1 hb (q3 c hb) hl he⟩
              · cases h
        · cases h
end
end
end Go.Eng
namespace Go.Eng
section
variable {X Y : Type} (g : X → Y)
theorem ZkU : ∀ (l : List Bool) (x : Option X), (Zgr l x).map g = Zgr l (x.map g)
  | [], _ => rfl
  | b :: r, x => by cases b; · rfl
                    · exact ZkU r x
theorem ZjF (cfg : Cfg) (o : Oper) (s : St) (tr : List Rec) (k : St → List Rec → Option X) : (ZeU cfg o s tr k).map g = ZeU cfg o s tr fun s t => (k s t).map g := by
  unfold ZeU
  split
  · exact ZkU g _ _
  · rfl
theorem Zo8 (cfg : Cfg) (o : Oper) (s : St) (tr : List Rec) (k : St → List Rec → Option X) : (ZdY cfg o s tr k).map g = ZdY cfg o s tr fun s t => (k s t).map g := by
  unfold ZdY
  split
  · split
    · rename_i b _
      cases b <;> exact ZjF g _ _ _ _ _
    · rfl
  · exact ZjF g _ _ _ _ _
theorem Zhd (cfg : Cfg) (all : List Oper) : ∀ (l : List Oper) (s : St) (tr : List Rec) (k : St → List Rec → Option X), (Zby cfg all l s tr k).map g = Zby cfg all l s tr fun s t => (k s t).map g
  | [], _, _, _ => rfl
  | o :: r, s, tr, k => by
    have ih := Zhd cfg all r
    have step : ∀ s tr, (ZdY cfg o s tr fun s tr => Zby cfg all r s tr k).map g = ZdY cfg o s tr fun s tr => Zby cfg all r s tr fun s t => (k s t).map g := fun s tr => by
      rw [Zo8]
      congr 1
      funext s t
      exact ih _ _ _
    unfold Zby
    split
    · exact step _ _
    · split
      · rfl
      · split
        · rename_i b _
          split <;> cases b <;> first | exact step _ _ | exact ih _ _ _
        · exact ih _ _ _
        · rfl
theorem Out.fold_map (k : Ex → St → Option X) : ∀ o : Out, (o.fold k).map g = o.fold fun e s => (k e s).map g
  | .leaf _ _ => rfl
  | .br b t f => by cases b; · exact Out.fold_map k f
                    · exact Out.fold_map k t
  | .tst b o => by cases b; · rfl
                   · exact Out.fold_map k o
theorem ZpS (cfg : Cfg) (L : Loops) : ∀ (c : Code) (s : St) (k : Ex → St → Option X), (Zb2 cfg L c s k).map g = Zb2 cfg L c s fun e s => (k e s).map g := by
  intro c
  induction c with
  | skip => intros; rfl
  | label => intros; rfl
  | region id ops draw =>
    intro s k
    cases draw
    · simp only [Zb2]; exact Zhd g _ _ _ _ _ _
    · simp only [Zb2]
      rw [Zhd]
      congr 1
      funext s tr
      cases (ZdZ tr || ZcU (CheckFast.beforeF ops).toList 0 tr.reverse) <;> rfl
  | seq a b iha ihb =>
    intro s k
    simp only [Zb2]
    rw [iha]
    congr 1
    funext e s
    cases e <;> first | exact ihb _ _ | rfl
  | cond c a b iha ihb =>
    intro s k
    simp only [Zb2]
    split
    · split
      · rename_i x _
        cases x
        · exact ihb _ _
        · exact iha _ _
      · rfl
    · exact iha _ _
    · exact ihb _ _
    · rfl
  | block id a ih =>
    intro s k
    simp only [Zb2]
    rw [ih]
    congr 1
    funext e s
    cases e with
    | exit j =>
      show ((bif Nat.beq j id then k .normal s else k (.exit j) s).map g) = bif Nat.beq j id then (k .normal s).map g else (k (.exit j) s).map g
      cases Nat.beq j id <;> rfl
    | _ => rfl
  | loop a ih =>
    intro s k
    simp only [Zb2]
    cases L.run (Zbl a) (head cfg.tab (L.keep (Zbl a)) (L.thaws (Zbl a)) s) with
    | none => rfl
    | some o => exact Out.fold_map g k o
  | exit => intros; rfl
  | ret => intros; rfl
  | _ => intros; rfl
end
noncomputable def Zff (w : V × List V → V × List V) (cfg : Cfg) (L : Loops) (fn : Func) (args : List V) : Option (V × List V) :=
  match fn.body with
  | none => none
  | some c => Zb2 cfg L c (ZiY args) fun e s => match e with
    | .exit _ => none
    | _ => (kept (args.flatMap lkOf) (Zgs cfg.tab fn.results.toList (Ze5 (Zeh cfg.tab s s.lent) L.cuts))).map w
theorem ZhS (w : V × List V → V × List V) (cfg : Cfg) (L : Loops) (fn : Func) (args : List V) : Zff w cfg L fn args = (Zes cfg L fn args).map w := by
  unfold Zff Zes
  cases fn.body with
  | none => rfl
  | some c =>
    dsimp only
    rw [ZpS]
    congr 1
    funext e s
    cases e <;> rfl
structure En (P : Program) (tab : Tab) where
  f : FuncId
  s : List V → Option (Bool × (V × List V))
  ok : ∀ args r, s args = some (true, r) → SumOk P tab f args r
  en : ZfU P f
  par : List (Option TypeId)
  wr : Bool
variable {P : Program} {tab : Tab}
def ZkV : List (En P tab) → Sums
  | [], _, _ => none
  | e :: r, f, args => bif Nat.beq e.f f then (match e.s args with
    | some x => some x
    | none => ZkV r f args) else ZkV r f args
def parL : List (En P tab) → FuncId → List (Option TypeId)
  | [], _ => []
  | e :: r, f => bif Nat.beq e.f f then e.par else parL r f
def mutL : List (En P tab) → FuncId → Bool
  | [], _ => false
  | e :: r, f => bif Nat.beq e.f f then e.wr else mutL r f
def anyN : List Nat → Nat → Bool
  | [], _ => false
  | x :: r, f => bif Nat.beq f x then true else anyN r f
def Zah (l : List (En P tab)) (deep : Bool) (ro : List Nat) : Cfg := ⟨tab, ZkV l, mutL l, parL l, deep, anyN ro⟩
theorem ZgC : ∀ l : List (En P tab), Zbh P tab (ZkV l)
  | [], _, _, _, h => by cases h
  | e :: r, f, args, x, h => by
    unfold ZkV at h
    cases hb : Nat.beq e.f f with
    | false => rw [hb] at h; exact ZgC r f args x h
    | true =>
      rw [hb, cond_true] at h
      obtain rfl := Zdq hb
      split at h
      · rename_i y hy
        cases h
        exact ⟨e.en, e.ok args x hy⟩
      · exact ZgC r _ args x h
def fnB (fn : Func) (A : List S2) (tab : Tab) (ws os : List (List S1)) : Bool :=
  fnOk fn && (Nat.ble A.length fn.ntmps && (((ws.all fun s => s.all (ZcD tab)) && (os.all fun s => s.all (ZcD tab))) && (!(fn.name == "runtime.NumGoroutine") && fn.body.isSome)))
theorem Zb6 {fn : Func} {A : List S2} {tab : Tab} {ws os : List (List S1)} (h : fnB fn A tab ws os = true) : fnOk fn = true ∧ Nat.ble A.length fn.ntmps = true ∧ ((ws.all fun s => s.all (ZcD tab)) && (os.all fun s => s.all (ZcD tab))) = true ∧ (!(fn.name == "runtime.NumGoroutine") && fn.body.isSome) = true := by
  unfold fnB at h
  obtain ⟨h1, h2⟩ := (Bool.and_eq_true _ _).mp h
  obtain ⟨h3, h4⟩ := (Bool.and_eq_true _ _).mp h2
  obtain ⟨h5, h6⟩ := (Bool.and_eq_true _ _).mp h4
  exact ⟨h1, h3, h5, h6⟩
def enP (hB : Base P tab) (l : List (En P tab)) (deep : Bool) (ro : List Nat) {f : FuncId} {fn : Func} (hf : P.funcs[f]? = some fn) {L : Loops} (hL : ZI (Zah l deep ro) L (ZY fn)) (A : List S2)
    {α : Type} [Inhabited α] (F : List V → Option α) (sh : α → V × List V) (ws os : List (List S1)) (par : List (Option TypeId)) (wr : Bool) (h : fnB fn A tab ws os = true)
    (E : ∀ a, Agr id sh (F a) (Zff (wkF ws os) (Zah l deep ro) L fn (Zdy A a 0))) : En P tab :=
  { f := f, s := fun args => bif Zbq A args then some ((F args).isSome, sh ((F args).getD default)) else none,
    ok := Base.sum (cfg := Zah l deep ro) hB (ZgC l) hf (Zb6 h).1 hL A (Zb6 h).2.1 ws os (Zb6 h).2.2.1 fun args ha => by
      intro r e
      have q := E args r e
      rw [ZhS, ha] at q
      simpa using q
    en := Zcj hf (Zb6 h).2.2.2, par := par, wr := wr }
def enT (hB : Base P tab) (l : List (En P tab)) (deep : Bool) (ro : List Nat) {f : FuncId} {fn : Func} (hf : P.funcs[f]? = some fn) {L : Loops} (hL : ZI (Zah l deep ro) L (ZY fn)) (A : List S2)
    {α : Type} (F : List V → α) (sh : α → V × List V) (ws os : List (List S1)) (par : List (Option TypeId)) (wr : Bool) (h : fnB fn A tab ws os = true)
    (E : ∀ a, Tot id sh (F a) (Zff (wkF ws os) (Zah l deep ro) L fn (Zdy A a 0))) : En P tab :=
  { f := f, s := fun args => bif Zbq A args then some (true, sh (F args)) else none,
    ok := Base.sumT (cfg := Zah l deep ro) hB (ZgC l) hf (Zb6 h).1 hL A (Zb6 h).2.1 ws os (Zb6 h).2.2.1 fun args ha => by
      have q := E args
      rw [ZhS, ha] at q
      unfold Tot at *
      simpa using q
    en := Zcj hf (Zb6 h).2.2.2, par := par, wr := wr }
def enN (hB : Base P tab) (l : List (En P tab)) (deep : Bool) (ro : List Nat) {f : FuncId} {fn : Func} (hf : P.funcs[f]? = some fn) {L : Loops} (hL : ZI (Zah l deep ro) L (ZY fn)) (T : TypeId)
    {α : Type} [Inhabited α] (F : List V → Option α) (sh : α → V × List V) (ws os : List (List S1)) (par : List (Option TypeId)) (wr : Bool) (h : fnB fn [.one (.inl T)] tab ws os = true)
    (E1 : ∀ l', Agr id sh (F l') (Zff (wkF ws os) (Zah l deep ro) L fn [.nn T l'])) (E2 : Agr id sh (F []) (Zff (wkF ws os) (Zah l deep ro) L fn [.nl T])) : En P tab :=
  { f := f, s := fun args => bif Zbq [.one (.inl T)] args then some ((F (rd args 0).L).isSome, sh ((F (rd args 0).L).getD default)) else none,
    ok := Base.sumNil (cfg := Zah l deep ro) hB (ZgC l) hf (Zb6 h).1 hL T (Zb6 h).2.1 ws os (Zb6 h).2.2.1
      (fun l' r e => by
        have q := E1 l' r e
        rw [ZhS] at q
        simpa using q)
      (fun r e => by
        have q := E2 r e
        rw [ZhS] at q
        simpa using q)
    en := Zcj hf (Zb6 h).2.2.2, par := par, wr := wr }
section
variable {α β Y : Type} {sh : α → Y}
theorem g0 : Agr id sh (none : Option α) none := fun _ h => by cases h
theorem g1 {c : Bool} {a b : Option α} {A B : Option Y} (h1 : Agr id sh a A) (h2 : Agr id sh b B) : Agr id sh (bif c then a else b) (bif c then A else B) := agr_if h1 h2
theorem g2 [Inhabited β] {F : Option β} {f : β → Option α} {g : β → Option Y} (h : ∀ x, Agr id sh (f x) (g x)) : Agr id sh (F.bind f) (rcall F g) := agr_call h
theorem g4 {r : α} : Agr id sh (some r) (some (sh r)) := agr_leaf rfl
theorem g5 {c : Bool} {a b : α} {A B : Option Y} (h1 : Tot id sh a A) (h2 : Tot id sh b B) : Tot id sh (bif c then a else b) (bif c then A else B) := tot_if h1 h2
theorem g7 {r : α} : Tot id sh r (some (sh r)) := tot_leaf rfl
theorem gA {F : Option α} {t u : Option Y} (h : Agr id sh F t) (e : u = t) : Agr id sh F u := e ▸ h
theorem gT {F : α} {t u : Option Y} (h : Tot id sh F t) (e : u = t) : Tot id sh F u := e ▸ h
end
def lpB (fn : Func) (i : Nat) : Code := (ZcJ (ZY fn)).getD i .skip
def slv : Nat → List V → List (Nat × V)
  | _, [] => []
  | n, v :: r => (n, v) :: slv n r
def bx (v : V) : Option Blk := some (.box 0 v.cells)
def rb (l : List V) : Option Blk := some (.row 0 false l)
def hpv : List (Option Blk) → List (Nat × Option Blk)
  | [] => []
  | v :: r => (0, v) :: hpv r
def stv (vs : List V) (bs : List (Option Blk)) : St := ⟨slv 0 vs, hpv bs, 0, []⟩
def pk0 {α : Type} (ps : α → List (Ex × St)) (r : α) : Ex × St := pick 0 0 (ps r)
def pk1 {β : Type} (ps : Nat × β → List (Ex × St)) (r : Nat × β) : Ex × St := pick r.1 0 (ps r)
def le0 {α : Type} [Inhabited α] (key : Nat) (ss : SS) (F : St → Option α) (ps : α → List (Ex × St)) : LE := ⟨key, ss, fun s => Out.tst (F s).isSome (brs 0 0 (ps ((F s).getD default)))⟩
def le1 {β : Type} [Inhabited β] (key : Nat) (ss : SS) (F : St → Option (Nat × β)) (ps : Nat × β → List (Ex × St)) : LE := ⟨key, ss, fun s => Out.tst (F s).isSome (brs (((F s).getD default).1) 0 (ps ((F s).getD default)))⟩
section
variable {cfg : Cfg} {L : Loops} {body : Code} {key : Nat} {ss : SS}
theorem gd0 {α : Type} [Inhabited α] {F : St → Option α} {t : St → Option (Ex × St)} (fuel : St → Nat) {ps : α → List (Ex × St)} (H : ∀ st, Agr id (pk0 ps) (F st) (t st)) (e : ∀ st, t st = ZM cfg L body (fuel st) (ss.mk' st)) :
    Good cfg L body (le0 key ss F ps) :=
  Zos (F := F) fuel (ix := fun _ => 0) (ps := ps) fun st hs => by
    have := H st
    rw [e st, hs] at this
    exact this
theorem gd1 {β : Type} [Inhabited β] {F : St → Option (Nat × β)} {t : St → Option (Ex × St)} (fuel : St → Nat) {ps : Nat × β → List (Ex × St)} (H : ∀ st, Agr id (pk1 ps) (F st) (t st)) (e : ∀ st, t st = ZM cfg L body (fuel st) (ss.mk' st)) :
    Good cfg L body (le1 key ss F ps) :=
  Zos (F := F) fuel (ix := fun r => r.1) (ps := ps) fun st hs => by
    have := H st
    rw [e st, hs] at this
    exact this
end
end Go.Eng
namespace Go.Eng
def I64 (n : Int) : Prop := -9223372036854775808 ≤ n ∧ n ≤ 9223372036854775807
theorem Zap {n : Int} (h1 : -9223372036854775808 ≤ n) (h2 : n ≤ 9223372036854775807) : IntKind.i64.wrap n = n := IntWalk.i64_in n ⟨h1, h2⟩
def LW (w : V → Prop) (l : List V) : Prop := l.length ≤ 9223372036854775807 ∧ ∀ x ∈ l, w x
def ZS (x : V) : Prop := 0 ≤ gi x 0 ∧ gi x 0 ≤ 255
def W_int (x : V) : Prop := I64 (gi x 0)
theorem LW.rd {w : V → Prop} {l : List V} (h : LW w l) {i : Nat} (hi : i < l.length) : w (Eng.rd l i) := by
  have : Eng.rd l i = l[i] := by simp [Eng.rd, List.getD, hi]
  rw [this]; exact h.2 _ (List.getElem_mem hi)
theorem LW.nil {w : V → Prop} : LW w [] := ⟨by simp, by simp⟩
theorem ZkW (k : IntKind) (n : Int) (l : List V) : gi (.agg (.int k n :: l)) 0 = n := rfl
theorem ZkX (T : TypeId) (x l : List V) : gl (.agg (.inl T x :: l)) 0 = x := rfl
theorem ZkY (v : V) (l : List V) (j : Nat) : gi (.agg (v :: l)) (j + 1) = gi (.agg l) j := rfl
theorem ZkZ (v : V) (l : List V) (j : Nat) : gl (.agg (v :: l)) (j + 1) = gl (.agg l) j := rfl
theorem Zo {i n : Nat} (h : i < n) : Zm (i : Int) n = true := by simp [Zm]; omega
theorem Zag {i n : Nat} (h : i < n) : decide (((i : Nat) : Int) < ((n : Nat) : Int)) = true := by simp; omega
theorem Z3 (n : Nat) : decide (((n : Nat) : Int) < ((n : Nat) : Int)) = false := by simp
theorem Z8 {i n : Nat} (h : i < n) (hn : n ≤ 9223372036854775807) : IntKind.i64.wrap ((i : Int) + 1) = ((i + 1 : Nat) : Int) := by
  rw [Zap (by omega) (by omega)]; omega
theorem Zbd (n : Nat) : (((n : Nat) : Int) - 0).toNat + 1 = n + 1 := by omega
theorem ZhT {n b : Nat} (h : n * b ≤ 140737488355328) (h1 : n ≤ 9223372036854775807) : Zw n b = true := by simp [Zw, h, h1]
theorem Zm6 {σ ρ : Type} {F : Nat → σ → Int → ρ} {n : Nat} (I : Nat → σ → Prop) (Q : ρ → Prop)
    (step : ∀ m i s, i < n → I i s → (∃ s', F (m + 1) s (i : Int) = F m s' ((i + 1 : Nat) : Int) ∧ I (i + 1) s') ∨ Q (F (m + 1) s (i : Int)))
    (fin : ∀ m s, I n s → Q (F (m + 1) s (n : Int))) :
    ∀ m i s, i ≤ n → n - i < m → I i s → Q (F m s (i : Int))
  | 0, i, s, _, h, _ => by omega
  | m + 1, i, s, hi, hm, hI => by
    rcases Nat.lt_or_ge i n with hlt | hge
    · rcases step m i s hlt hI with ⟨s', e, hI'⟩ | h
      · rw [e]; exact Zm6 I Q step fin m (i + 1) s' (by omega) (by omega) hI'
      · exact h
    · obtain rfl : i = n := by omega
      exact fin m s hI
theorem Zdj {σ ρ : Type} {F : Nat → σ → Int → ρ} {n : Nat} (I : Nat → σ → Prop) (Q : ρ → Prop)
    (step : ∀ m i s, i < n → I i s → (∃ s', F (m + 1) s (i : Int) = F m s' ((i + 1 : Nat) : Int) ∧ I (i + 1) s') ∨ Q (F (m + 1) s (i : Int)))
    (fin : ∀ m s, I n s → Q (F (m + 1) s (n : Int))) {s : σ} (h : I 0 s) : Q (F (n + 1) s 0) :=
  Zm6 I Q step fin (n + 1) 0 s (by omega) (by omega) h
theorem ZeZ {ρ : Type} {F : Nat → Int → ρ} {n : Nat} {out : ρ} (h1 : ∀ m (i : Nat), i < n → F (m + 1) (i : Int) = F m ((i + 1 : Nat) : Int)) (h0 : ∀ m, F (m + 1) (n : Int) = out) : F (n + 1) 0 = out :=
  Zdj (F := fun m (_ : Unit) i => F m i) (n := n) (fun _ _ => True) (fun o => o = out) (fun m i s hi _ => .inl ⟨(), h1 m i hi, trivial⟩) (fun m s _ => h0 m) (s := ()) trivial
end Go.Eng
