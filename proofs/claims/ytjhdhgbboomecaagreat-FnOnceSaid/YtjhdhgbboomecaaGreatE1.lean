/- An own evaluator of the program's form, proved sound, and what it says of this law's functions: part 1. -/
import Derived.Test.YtjhdhgbboomecaaGreatE0
import Derived.Lib.ConvBytes
set_option linter.unusedVariables false
namespace Go.Eng
section
variable {P : Program} {tab : Tab}
theorem Zh4 {E : Entry} {M : Mem} (hM : MemOk tab E M) {T : TypeId} {ty : Ty} (hty : TyOk P tab T ty) : ∀ (ps : List (Nat × V)) (vs : List (Nat × Value)) (acc : List V) (vals : List Value) (own : Bool) (F : Nat → Nat → List Nat) (K Kt : List Nat)
    {res : List V} {own' : Bool} {K' log : List Nat}, Elems tab E M ty acc vals own F K Kt → vs.map (·.1) = ps.map (·.1) → (∀ k, k < ps.length → M.Rs tab E (ps.getD k (0, .dead)).2 (vs.getD k (0, undef)).2) →
    Zfu tab ty acc ps M.hp = some ((res, own', K'), log) → (K ++ K').Nodup →
    ∃ vals' F', Elems tab E M ty res vals' (own && own') F' (K ++ K') (Kt ++ K') ∧ res.length = acc.length ∧ Instr.fill (fun i => some (i * ty.kinds.length, ty.kinds.length)) vals.toArray vs = some vals'.toArray
  | [], [], acc, vals, own, F, K, Kt, res, own', K', log, h, _, _, hp, _ => by
    cases Zk (h := M.hp) hp
    exact ⟨vals, F, by simpa using h, rfl, rfl⟩
  | [], _ :: _, _, _, _, _, _, _, _, _, _, _, _, hm, _, _, _ => by simp at hm
  | _ :: _, [], _, _, _, _, _, _, _, _, _, _, _, hm, _, _, _ => by simp at hm
  | (i, x) :: ps, (i', v) :: vs, acc, vals, own, F, K, Kt, res, own', K', log, h, hm, hv, hp, hK => by
    simp only [List.map_cons, List.cons.injEq] at hm
    obtain ⟨rfl, hm⟩ := hm
    obtain ⟨⟨cs, o2, K2⟩, l1, b1, l1', h1, h2, h3⟩ := Zi (h := M.hp) hp
    cases h3
    obtain ⟨ht, h2⟩ := Zv h2
    obtain ⟨⟨res', o3, K3⟩, l2, b2, l2', h4, h5, h6⟩ := Zi h2
    cases Zk h5
    cases h6
    simp only [Bool.and_eq_true, decide_eq_true_eq] at ht
    obtain ⟨hi, hone, hkk⟩ := ht
    have hx := hv 0 (by simp)
    simp only [List.getD_cons_zero] at hx
    obtain ⟨c1, c2, c3⟩ := ZcV hx hone
    obtain ⟨hcl, Ks, hK2, hj⟩ := Zg1 hM x.cells v.cells.toList c1 c2 h1
    obtain ⟨hkl, hkk⟩ := Ze8 hkk
    have hKn : (K ++ K2).Nodup := by
      rw [← List.append_assoc] at hK
      exact (List.nodup_append.1 hK).1
    have hE := Elems.set hM hty h (own2 := o2) (K2 := K2) hi (off := 0) (cs := cs) (us := v.cells.toList) (by rw [c1, hcl]) (by omega) (fun j hj' => by rw [Nat.zero_add]; exact hkk j (by omega))
      (Ks := Ks) (by rw [hcl]; exact hK2) (fun j hj' => hj j (by omega)) hKn
    have hsp : Z5 (ZV ty.kinds (acc.getD i' .dead)) 0 cs = cs := by
      have hr : (ZV ty.kinds (acc.getD i' .dead)).length = ty.kinds.length := ZaU _ _ _
      unfold Z5
      rw [List.take_zero, List.nil_append, List.drop_of_length_le (by omega), List.append_nil]
    rw [hsp] at hE
    obtain ⟨vals', F', e1, e2, e3⟩ := Zh4 hM hty ps vs _ _ _ _ _ _ hE hm (fun k hk => by simpa using hv (k + 1) (by simpa using hk)) h4 (by rw [List.append_assoc]; exact hK)
    refine ⟨vals', F', by rw [Bool.and_assoc, List.append_assoc, List.append_assoc] at e1; exact e1, by rw [e2, List.length_set], ?_⟩
    have hle : i' * ty.kinds.length + ty.kinds.length ≤ acc.length * ty.kinds.length := by
      have : (i' + 1) * ty.kinds.length ≤ acc.length * ty.kinds.length := Nat.mul_le_mul_right _ hi
      rwa [Nat.add_mul, Nat.one_mul] at this
    have hvs : v.cells.size = ty.kinds.length := by rw [← Array.length_toList, c1, ← hcl, hkl]
    rw [Zil _ _ i' (i' * ty.kinds.length) ty.kinds.length v vs rfl hvs (by rw [List.size_toArray, h.len]; exact hle)]
    simpa using e3
theorem ZjO (hT : Zx P tab) {E : Entry} {M : Mem} (hM : MemOk tab E M) {nid : Nat} (hn : M.hp nid = none) {t e : TypeId} {ty0 ty : Ty} (h0 : tab t = some ty0) (h1 : ty0.elem = some e) (h3 : tab e = some ty) {n : Nat} {ps : List (Nat × V)} {vs : Array (Nat × Value)}
    (hz : Zgn tab ty = true) (hcells : n * ty.kinds.length ≤ 16777216) (hm : vs.toList.map (·.1) = ps.map (·.1)) (hv : ∀ k, k < ps.length → M.Rs tab E (ps.getD k (0, .dead)).2 (vs.toList.getD k (0, undef)).2)
    {res : List V} {own : Bool} {K log : List Nat} (hp : Zfu tab ty (List.replicate n (Zdv ty)) ps M.hp = some ((res, own, K), log)) (hd : ZbR K = true) :
    ∃ M' val, (Instr.buildSlice t n vs).run P M.w = .ok val M'.w ∧ StepOk tab E M ⟨.sl nid e 0 none, ended K ++ [(nid, some (.row e own res))]⟩ val M' := by
  have hu := ((hT t ty0 h0).elem e h1).1
  have hty := hT e ty h3
  obtain ⟨i, z, hi, hs, hb, hz', hzc, -⟩ := hty.info
  have hzs : z.cells.size = ty.kinds.length := by rw [← Array.length_toList, hzc]; simp
  have hE := Elems.zeros (E := E) (M := M) hT h3 hz n hzc
  obtain ⟨vals', F', e1, e2, e3⟩ := Zh4 hM hty ps vs.toList _ _ _ _ [] [] hE hm hv hp (by simpa using ZcI hd)
  simp only [List.nil_append, Bool.true_and, List.length_replicate] at e1 e2
  have hc : ¬ (n * ty.kinds.length > 16777216) := by omega
  have hrun : (Instr.buildSlice t n vs).run P M.w = .ok (.slice (some ⟨M.w.heap.size, 0, none⟩) n n) (M.w.alloc (.cells vals'.toArray e)) := by
    have hc2 : ¬ (n * ty.kinds.length > 2 ^ 24) := by omega
    have hsz := hty.sizeOf M.w
    have hzv : (zeroValue e).run P M.w = .ok z M.w := by simp only [zeroValue, Sem.run_bind, typeInfo, run_program, Result.andThen_ok, hi, Sem.run_pure, hz']
    simp only [Array.toArray_toList] at e3
    by_cases hz0 : n * ty.kinds.length = 0
    · have hv0 : madeCells z.cells (n * ty.kinds.length) = (Array.range (n * ty.kinds.length)).map (fun x => (#[] : Array Value)[x % (#[] : Array Value).size]!) := by
        rw [hz0]; apply Array.ext' ; simp [madeCells]
      rw [hv0] at e3
      simp only [Instr.buildSlice, Sem.run_bind, run_underlying hu, Result.andThen_ok, hsz, Sem.run_ite, if_neg hc2, if_pos hz0, Sem.run_pure, e3, newRow, run_newObj, World.alloc]
    · have hv0 : madeCells z.cells (n * ty.kinds.length) = (Array.range (n * ty.kinds.length)).map (fun x => z.cells[x % z.cells.size]!) := rfl
      rw [hv0] at e3
      simp only [Instr.buildSlice, Sem.run_bind, run_underlying hu, Result.andThen_ok, hsz, Sem.run_ite, if_neg hc2, if_neg hz0, hzv, Sem.run_pure, e3, newRow, run_newObj, World.alloc]
  have hlen := e1.len
  rw [e2] at hlen
  obtain ⟨M', hw, hst⟩ := ZhE hM hn h3 e1 (by simp) (w' := M.w.alloc (.cells vals'.toArray e)) (v := .slice (some ⟨M.w.heap.size, 0, none⟩) n n)
    (by
      rw [e2]
      have := Zim (w := M.w) (T := e) (sz := ty.kinds.length) (n := n) (cur := vals'.toArray) (by simpa using hlen) (by
        simp only [maxLen]
        have hpos := hty.pos
        have : n ≤ n * ty.kinds.length := Nat.le_mul_of_pos_right _ hpos
        omega)
      simpa using this)
    rfl rfl rfl (by simp) [] (by simp) (fun g hg _ => heap_alloc_old _ _ _ hg) Zg3 (by simp) (by simp)
  exact ⟨M', _, by rw [hw]; exact hrun, hst⟩
end
end Go.Eng
namespace Go.Eng
section
variable {P : Program} {tab : Tab}
theorem Elems.over {E : Entry} {M : Mem} {ty : Ty} {l : List V} {vals : List Value} {own : Bool} {F : Nat → Nat → List Nat} {K Kt : List Nat}
    (h : Elems tab E M ty l vals own F K Kt) {l2 : List V} {us : List Value} (h2 : Elems tab E M ty l2 us true (fun _ _ => []) [] []) {off : Nat} (hfit : off + l2.length ≤ l.length) :
    Elems tab E M ty (l.take off ++ l2 ++ l.drop (off + l2.length)) (vals.take (off * ty.kinds.length) ++ us ++ vals.drop (off * ty.kinds.length + us.length)) own
      (fun i j => if off ≤ i ∧ i < off + l2.length then [] else F i j) K Kt := by
  have hget := fun i => ZbY l l2 off i .dead hfit
  have hul := h2.len
  have hle : off * ty.kinds.length + us.length ≤ vals.length := by
    rw [hul, h.len, ← Nat.add_mul]; exact Nat.mul_le_mul_right _ hfit
  have hll : (l.take off ++ l2 ++ l.drop (off + l2.length)).length = l.length := by simp; omega
  have hval : ∀ i j, j < ty.kinds.length → (vals.take (off * ty.kinds.length) ++ us ++ vals.drop (off * ty.kinds.length + us.length)).getD (i * ty.kinds.length + j) undef =
      if off ≤ i ∧ i < off + l2.length then us.getD ((i - off) * ty.kinds.length + j) undef else vals.getD (i * ty.kinds.length + j) undef := by
    intro i j hj
    rw [ZbY _ _ _ _ _ hle]
    by_cases hc : off ≤ i ∧ i < off + l2.length
    · have h1 : off * ty.kinds.length ≤ i * ty.kinds.length := Nat.mul_le_mul_right _ hc.1
      have h2' : (i - off) * ty.kinds.length + j < l2.length * ty.kinds.length := ZbH (by omega) hj
      rw [Nat.sub_mul] at h2'
      rw [if_pos (by omega), if_pos hc, Nat.sub_mul]
      congr 1; omega
    · rw [if_neg hc, if_neg]
      rintro ⟨h1, h2'⟩
      by_cases h3 : i < off
      · have : (i + 1) * ty.kinds.length ≤ off * ty.kinds.length := Nat.mul_le_mul_right _ h3
        rw [Nat.add_mul] at this; omega
      · have : (off + l2.length) * ty.kinds.length ≤ i * ty.kinds.length := Nat.mul_le_mul_right _ (by omega)
        rw [Nat.add_mul] at this; omega
  refine ⟨?_, fun i hi => ?_, fun ok' a b i j hi hj => ?_, fun ho => ?_⟩
  · rw [hll, ← h.len]; simp; omega
  · rw [hll] at hi; rw [hget]
    by_cases hc : off ≤ i ∧ i < off + l2.length
    · rw [if_pos hc]; exact h2.shape _ (by omega)
    · rw [if_neg hc]; exact h.shape i hi
  · rw [hll] at hi; rw [hget, hval i j hj]
    by_cases hc : off ≤ i ∧ i < off + l2.length
    · rw [if_pos hc, if_pos hc]; exact h2.tree ok' a (by simp) _ j (by omega) hj
    · rw [if_neg hc, if_neg hc]; exact h.tree ok' a b i j hi hj
  · obtain ⟨a1, a2, a3⟩ := h.mine ho
    obtain ⟨b1, -, -⟩ := h2.mine rfl
    obtain ⟨c1, c2⟩ := nodup_flatF.1 a2
    refine ⟨fun i j hi hj => ?_, nodup_flatF.2 ⟨fun i j hi hj => ?_, fun i j i' j' hi hj hi' hj' hne g hg hg' => ?_⟩, fun g hg => ?_⟩
    · rw [hll] at hi; rw [hget, hval i j hj]
      by_cases hc : off ≤ i ∧ i < off + l2.length
      · simp only [if_pos hc]; exact b1 _ j (by omega) hj
      · simp only [if_neg hc]; exact a1 i j hi hj
    · rw [hll] at hi
      by_cases hc : off ≤ i ∧ i < off + l2.length
      · simp only [if_pos hc]; exact List.nodup_nil
      · simp only [if_neg hc]; exact c1 i j hi hj
    · rw [hll] at hi hi'
      by_cases hc : off ≤ i ∧ i < off + l2.length
      · simp only [if_pos hc] at hg; cases hg
      · by_cases hc' : off ≤ i' ∧ i' < off + l2.length
        · simp only [if_pos hc'] at hg'; cases hg'
        · simp only [if_neg hc] at hg; simp only [if_neg hc'] at hg'
          exact c2 i j i' j' hi hj hi' hj' hne g hg hg'
    · obtain ⟨i, hi, j, hj, hg⟩ := mem_flatF.1 hg
      rw [hll] at hi
      by_cases hc : off ≤ i ∧ i < off + l2.length
      · simp only [if_pos hc] at hg; cases hg
      · simp only [if_neg hc] at hg; exact a3 g (mem_flatF.2 ⟨i, hi, j, hj, hg⟩)
theorem Zpy (hT : Zx P tab) {E : Entry} {M : Mem} (hM : MemOk tab E M) {id : Nat} {T : TypeId} {own : Bool} {els : List V} (hb : M.hp id = some (some (.row T own els))) {ty : Ty} (ht : tab T = some ty)
    {l2 : List V} {us : List Value} (h2 : Elems tab E M ty l2 us true (fun _ _ => []) [] []) (h1 : ∀ u ∈ us, u.oneCell' = true) {off : Nat} (hfit : off + l2.length ≤ els.length) (hne : 0 < l2.length) :
    ∃ M' g, M.top id = [g] ∧ (storeCells ⟨g, off * ty.kinds.length, none⟩ us).run P M.w = .ok () M'.w ∧ StepOk tab E M ⟨.dead, [(id, some (.row T own (els.take off ++ l2 ++ els.drop (off + l2.length))))]⟩ undef M' := by
  have hpos := (hT T ty ht).pos
  obtain ⟨g, cap, cur, F, k1, k2, k3, k4, k5, k6, k7, k8, k9⟩ := hM.cur hb ht (by omega) hpos
  have hE := Elems.over k8 h2 hfit
  have hul := h2.len
  have hle : off * ty.kinds.length + us.length ≤ els.length * ty.kinds.length := by
    rw [hul, ← Nat.add_mul]; exact Nat.mul_le_mul_right _ hfit
  have hcap : els.length * ty.kinds.length ≤ cap * ty.kinds.length := Nat.mul_le_mul_right _ k4
  have hst := Zei P g (off * ty.kinds.length) T us 0 cur M.w k3 (by omega) h1
  simp only [Nat.add_zero] at hst
  have hcs : cur.toList.length = cap * ty.kinds.length := by rw [Array.length_toList, k7]
  have hll : (els.take off ++ l2 ++ els.drop (off + l2.length)).length = els.length := by simp; omega
  have hnew := Zg2 cur.toList us (off * ty.kinds.length) (els.length * ty.kinds.length) hle (by omega)
  have hrow : RowIs (M.w.setRow g (cur.toList.take (off * ty.kinds.length) ++ us ++ cur.toList.drop (off * ty.kinds.length + us.length)).toArray) T ty.kinds.length
      (els.take off ++ l2 ++ els.drop (off + l2.length)).length (.slice (some ⟨g, 0, none⟩) els.length cap)
      ((cur.toList.take (els.length * ty.kinds.length)).take (off * ty.kinds.length) ++ us ++ (cur.toList.take (els.length * ty.kinds.length)).drop (off * ty.kinds.length + us.length)) := by
    refine ⟨hE.len, .inr ⟨g, cap, _, by rw [hll], k6, k3.setRow (by have := Array.length_toList (xs := cur); simp only [List.size_toArray, List.length_append, List.length_take, List.length_drop]; omega), by rw [hll]; exact k4, k5, ?_, by rw [hll]; exact hnew⟩⟩
    simp only [List.size_toArray, List.length_append, List.length_take, List.length_drop]; omega
  have htg : Zp (.slice (some ⟨g, 0, none⟩) els.length cap) = [g] := by
    obtain ⟨c, rfl⟩ : ∃ c, cap = c + 1 := ⟨cap - 1, by omega⟩
    rfl
  obtain ⟨M', hw, hs⟩ := Zik hM ht hE (by simp) hrow (.inr (by rw [hll]; exact k1)) rfl rfl rfl (by simp) [g] (fun x hx => ⟨id, by simp, by rw [k2]; exact hx⟩)
    (fun k _ hk => setRow_other _ _ _ _ (fun e => hk (by simp [e]))) (fun x hx => .inl (by rw [htg] at hx; exact hx))
    (fun ho x hx hx' => by
      obtain ⟨i, hi', j, hjl, hxm⟩ := mem_flatF.1 hx
      rw [hll] at hi'
      by_cases hc : off ≤ i ∧ i < off + l2.length
      · simp only [if_pos hc] at hxm; cases hxm
      · simp only [if_neg hc] at hxm
        have := k9 ho x (mem_flatF.2 ⟨i, hi', j, hjl, hxm⟩)
        exact (List.nodup_append.1 (hM.nodup id)).2.2 x (by rw [k2]; exact hx') x this rfl)
    (by simp)
  refine ⟨M', g, k2, by rw [hw]; exact hst, hs.mem, hs.le, ?_, .tree (.dead _)⟩
  rw [hs.hp]
  exact ZlF (K := [])
theorem StepOk.val' {E : Entry} {M M' : Mem} {Ef : Eff} {v : Value} (h : StepOk tab E M Ef v M') {x : V} {u : Value} (hx : M'.Rs tab E x u) : StepOk tab E M ⟨x, Ef.upd⟩ u M' :=
  ⟨h.mem, h.le, h.hp, hx⟩
theorem StepOk.again {E : Entry} {M : Mem} (hM : MemOk tab E M) {id : Nat} {b : Blk} (hb : M.hp id = some (some b)) {x : V} {v : Value} (hx : M.Rs tab E x v) : StepOk tab E M ⟨x, [(id, some b)]⟩ v M := by
  refine ⟨hM, .refl E M, ?_, hx⟩
  funext i
  by_cases h : i = id
  · subst h; simp [ZW, hb]
  · simp [ZW, h]
theorem Elems.take {E : Entry} {M : Mem} {ty : Ty} {l : List V} {vals : List Value} (h : Elems tab E M ty l vals true (fun _ _ => []) [] []) (n : Nat) (hn : n ≤ l.length) :
    Elems tab E M ty (l.take n) (vals.take (n * ty.kinds.length)) true (fun _ _ => []) [] [] := by
  have hl : (l.take n).length = n := by simp; omega
  have hle : n * ty.kinds.length ≤ l.length * ty.kinds.length := Nat.mul_le_mul_right _ hn
  have hg : ∀ i, i < n → (l.take n).getD i .dead = l.getD i .dead := fun i hi => by simp [List.getD, hi]
  have hv : ∀ i j, i < n → j < ty.kinds.length → (vals.take (n * ty.kinds.length)).getD (i * ty.kinds.length + j) undef = vals.getD (i * ty.kinds.length + j) undef := fun i j hi hj => by
    simp [List.getD, ZbH hi hj]
  refine ⟨by rw [hl]; have := h.len; simp; omega, fun i hi => ?_, fun ok' a b i j hi hj => ?_, fun _ => ⟨fun i j hi hj => ?_, nodup_flatF.2 ⟨fun _ _ _ _ => List.nodup_nil, fun _ _ _ _ _ _ _ _ _ _ h => by cases h⟩, fun g hg => ?_⟩⟩
  · rw [hl] at hi; rw [hg i hi]; exact h.shape i (by omega)
  · rw [hl] at hi; rw [hg i hi, hv i j hi hj]; exact h.tree ok' a b i j (by omega) hj
  · rw [hl] at hi; rw [hg i hi, hv i j hi hj]; exact (h.mine rfl).1 i j (by omega) hj
  · obtain ⟨_, _, _, _, h⟩ := mem_flatF.1 hg; cases h
def Zgt (a : Option Addr) (us : List Value) : Sem Unit :=
  match a with
  | some a => storeCells a us
  | none => pure ()
theorem ZmH (hT : Zx P tab) {E : Entry} {M : Mem} (hM : MemOk tab E M) {id : Nat} {T : TypeId} {own : Bool} {els : List V} (hb : M.hp id = some (some (.row T own els))) {ty : Ty} (ht : tab T = some ty)
    {l2 : List V} {us : List Value} (h2 : Elems tab E M ty l2 us true (fun _ _ => []) [] []) (h1 : ∀ u ∈ us, u.oneCell' = true) {off : Nat} (hfit : off + l2.length ≤ els.length)
    {a : Option Addr} (ha : 0 < l2.length → ∀ g, M.top id = [g] → a = some ⟨g, off * ty.kinds.length, none⟩) :
    ∃ M', (Zgt a us).run P M.w = .ok () M'.w ∧ StepOk tab E M ⟨.dead, [(id, some (.row T own (els.take off ++ l2 ++ els.drop (off + l2.length))))]⟩ undef M' := by
  by_cases hne : 0 < l2.length
  · obtain ⟨M', g, k1, k2, k3⟩ := Zpy hT hM hb ht h2 h1 hfit hne
    rw [ha hne g k1]
    exact ⟨M', k2, k3⟩
  · have h0 : l2 = [] := List.eq_nil_of_length_eq_zero (by omega)
    subst h0
    have hu : us = [] := List.eq_nil_of_length_eq_zero (by simpa using h2.len)
    subst hu
    refine ⟨M, by cases a <;> rfl, ?_⟩
    have : els.take off ++ [] ++ els.drop (off + ([] : List V).length) = els := by simp
    rw [this]
    exact StepOk.again hM hb (.tree (.dead _))
theorem ZoT (hT : Zx P tab) {E : Entry} {M : Mem} (hM : MemOk tab E M) {t t2 ot : TypeId} {d s : V} {dv sv : Value} {Ef : Eff} {log : List Nat}
    (hd : M.Rs tab E d dv) (hs : M.Rs tab E s sv) (h : Zkg tab t d s M.hp = some (Ef, log)) :
    ∃ M' val, (Builtin.copy_ #[t, t2] ot #[dv, sv]).run P M.w = .ok val M'.w ∧ StepOk tab E M Ef val M' := by
  unfold Zkg at h
  obtain ⟨e, l1, b1, l1', h1, h2, h3⟩ := Zi h
  cases h3
  obtain ⟨h1, -⟩ := Zt h1
  obtain ⟨ty0, h0, h1⟩ := Option.bind_eq_some_iff.1 h1
  obtain ⟨ty, l2, b2, l2', h3, h4, h5⟩ := Zi h2
  cases h5
  obtain ⟨h3, -⟩ := Zt h3
  obtain ⟨hflat, h4⟩ := Zv h4
  have hu := ((hT t ty0 h0).elem e h1).1
  have hsz := (hT e ty h3).sizeOf M.w
  cases d with
  | sl id T off len =>
    obtain ⟨blk, l, b, l', h6, h7, h8⟩ := Zi h4
    cases h8
    obtain ⟨h6, -⟩ := ZaD h6
    cases blk with
    | box T cs => exact (Zl h7).elim
    | drow _ _ => exact (Zl h7).elim
    | hrow _ _ _ _ _ => exact (Zl h7).elim
    | grow _ _ => exact (Zl h7).elim
    | row T' own els =>
      obtain ⟨r, l5, b5, l5', h8, h9, h10⟩ := Zi h7
      cases h10
      obtain ⟨hte, h9'⟩ := Zv h9
      obtain rfl : T' = e := by simpa using hte
      cases Zk h9'
      obtain ⟨news, n1, n2, n3⟩ := Zd2 (P := P) hM h3 hs h8
      obtain ⟨ty', a, a', cap, m, q1, q2, q3, q4, q5, q6, q7, rfl, q8, q9⟩ := hM.sl hd h6
      obtain rfl : ty = ty' := Option.some.inj (h3.symm.trans q1)
      rw [q8]
      have hE := (Elems.flat hflat n1).take (min r.length m) (Nat.min_le_left _ _)
      have hl2 : (r.take (min r.length m)).length = min r.length m := by simp
      obtain ⟨M', hst, hok⟩ := ZmH hT hM h6 h3 hE (fun u hu => n1.oneCell u (List.mem_of_mem_take hu)) (off := off) (by rw [hl2]; omega) (a := a') (fun hp g hg => by
        rw [hl2] at hp
        obtain ⟨g', rfl, e1, e2⟩ := q9 (by omega)
        rw [e1] at hg; cases hg
        rw [q6 (by omega)]; simp [ZcG])
      rw [hl2] at hok
      refine ⟨M', .int .i64 (min r.length m : Nat), ?_, hok.val' (.tree (.int _ _))⟩
      have hf := n3 (min r.length m) (Nat.min_le_left _ _) M.w fun _ _ => rfl
      have hcopy : (Builtin.copy_ #[t, t2] ot #[.slice a' m (cap - off), sv]).run P M.w = (do Zgt a' (news.take (min r.length m * ty.kinds.length)); pure (goInt (min r.length m : Nat)) : Sem Value).run P M.w := by
        simp only [Builtin.copy_, Sem.run_bind, run_underlying hu, Result.andThen_ok, n2, hsz, List.getElem?_toArray, List.getElem?_cons_zero, List.getElem?_cons_succ]
        rw [show Nat.min r.length m = min r.length m from rfl, hf]
        simp only [Result.andThen_ok]
        cases a' <;> simp [Zgt]
      rw [hcopy, Sem.run_bind, hst]
      rfl
  | _ => exact (Zl (h := M.hp) h4).elim
theorem ZnK (hT : Zx P tab) {E : Entry} {M : Mem} (hM : MemOk tab E M) {t ot : TypeId} {d : V} {dv : Value} {Ef : Eff} {log : List Nat}
    (hd : M.Rs tab E d dv) (h : Zic tab t d M.hp = some (Ef, log)) :
    ∃ M' val, (Builtin.clear_ #[t] ot #[dv]).run P M.w = .ok val M'.w ∧ StepOk tab E M Ef val M' := by
  unfold Zic at h
  obtain ⟨e, l1, b1, l1', h1, h2, h3⟩ := Zi h
  cases h3
  obtain ⟨h1, -⟩ := Zt h1
  obtain ⟨ty0, h0, h1⟩ := Option.bind_eq_some_iff.1 h1
  obtain ⟨ty, l2, b2, l2', h3, h4, h5⟩ := Zi h2
  cases h5
  obtain ⟨h3, -⟩ := Zt h3
  have hu := ((hT t ty0 h0).elem e h1).1
  have hty := hT e ty h3
  obtain ⟨z, hz, hzc, -⟩ := hty.zero M.w
  have htup : ∀ (M' : Mem), M'.Rs tab E (.tup []) (.tuple #[]) := fun M' => .tup [] [] rfl (by simp)
  cases d with
  | sl id T off len =>
    obtain ⟨blk, l, b, l', h6, h7, h8⟩ := Zi h4
    cases h8
    obtain ⟨h6, -⟩ := ZaD h6
    cases blk with
    | box T cs => exact (Zl h7).elim
    | drow _ _ => exact (Zl h7).elim
    | hrow _ _ _ _ _ => exact (Zl h7).elim
    | grow _ _ => exact (Zl h7).elim
    | row T' own els =>
      obtain ⟨hte, h9⟩ := Zv h7
      simp only [Bool.and_eq_true, decide_eq_true_eq] at hte
      obtain ⟨rfl, hzo⟩ := hte
      cases Zk h9
      obtain ⟨ty', a, a', cap, m, q1, q2, q3, q4, q5, q6, q7, rfl, q8, q9⟩ := hM.sl hd h6
      obtain rfl : ty = ty' := Option.some.inj (h3.symm.trans q1)
      rw [q8]
      have hE := Elems.zeros (E := E) (M := M) hT h3 hzo m hzc
      obtain ⟨M', hst, hok⟩ := ZmH hT hM h6 h3 hE (fun u hu => by
          simp only [madeCells, Array.toList_map, List.mem_map] at hu
          obtain ⟨k, hk, rfl⟩ := hu
          have hzs : z.cells.size = ty.kinds.length := by rw [← Array.length_toList, hzc]; simp
          have hlt : k % z.cells.size < z.cells.toList.length := by
            rw [Array.length_toList]; exact Nat.mod_lt _ (by rw [hzs]; exact hty.pos)
          have e1 : z.cells[k % z.cells.size]! = z.cells.toList[k % z.cells.size] := by
            have : k % z.cells.size < z.cells.size := by simpa using hlt
            simp [this]
          rw [e1]
          have : z.cells.toList[k % z.cells.size] ∈ ty.kinds.map ZbS := by rw [← hzc]; exact List.getElem_mem hlt
          obtain ⟨kk, _, hkk⟩ := List.mem_map.1 this
          rw [← hkk]; exact ZnJ kk) (off := off) (by simp; omega) (a := a') (fun hp g hg => by
        simp at hp
        obtain ⟨g', rfl, e1, e2⟩ := q9 (by omega)
        rw [e1] at hg; cases hg
        rw [q6 (by omega)]; simp [ZcG])
      simp only [List.length_replicate] at hok
      refine ⟨M', .tuple #[], ?_, hok.val' (htup M')⟩
      by_cases hm : m = 0
      · subst hm
        have hw : M'.w = M.w := by
          have e0 : (madeCells z.cells (0 * ty.kinds.length)).toList = [] := by simp [madeCells]
          rw [e0] at hst
          cases a' <;> (simp [Zgt, storeCells] at hst; exact hst.symm)
        rw [hw]
        cases a' <;> simp [Builtin.clear_, run_underlying hu]
      · obtain ⟨g', rfl, e1, e2⟩ := q9 (by omega)
        have ha : a' = some ⟨g', off * ty.kinds.length, none⟩ := by rw [q6 (by omega)]; simp [ZcG]
        subst ha
        obtain ⟨m', rfl⟩ : ∃ k, m = k + 1 := ⟨m - 1, by omega⟩
        have hzc2 : Builtin.zeroCells z.cells (m' + 1) = madeCells z.cells ((m' + 1) * ty.kinds.length) := by
          have hzs : z.cells.size = ty.kinds.length := by rw [← Array.length_toList, hzc]; simp
          simp [Builtin.zeroCells, madeCells, hzs]
        simp only [Builtin.clear_, Sem.run_bind, run_underlying hu, Result.andThen_ok, List.getElem?_toArray, List.getElem?_cons_zero, hz, hzc2]
        simp only [Zgt] at hst
        rw [hst]
        rfl
  | nil T =>
    cases Zk (h := M.hp) h4
    obtain ⟨a, rfl⟩ := hd.nil
    refine ⟨M, .tuple #[], ?_, StepOk.same hM (htup M)⟩
    cases a <;> simp [Builtin.clear_, run_underlying hu]
  | _ => exact (Zl (h := M.hp) h4).elim
end
end Go.Eng
namespace Go.Eng
section
variable {P : Program} {tab : Tab}
theorem ZnL (hT : Zx P tab) {w : World} {ok : Nat → Prop} {ρ : Nat → Option RB} {T : TypeId} {ty : Ty} (ht : tab T = some ty) (ha : ty.agg = true) {ps : List (Nat × V)} {vs : Array (Nat × Value)}
    (hm : vs.toList.map (·.1) = ps.map (·.1)) (hv : ∀ k, k < ps.length → Rs tab w ok ρ (ps.getD k (0, .dead)).2 (vs.toList.getD k (0, undef)).2) (hone : ∀ p ∈ ps, p.2.cells.all V.one = true) {cs : List V}
    (hf : ZdX (fun i => ty.fields[i]?.bind fun (fd : Nat × TypeId) => (tab fd.2).map fun ft => (fd.1, ft.kinds.length)) (ty.kinds.map ZcB) ps = some cs) :
    ∃ v, (Instr.build T vs).run P w = .ok v w ∧ Rs tab w ok ρ (.agg (Z1 tab ty.kinds cs)) v := by
  obtain ⟨i, z, hi, hs, hb, hz, hzc, -⟩ := (hT T ty ht).info
  obtain ⟨fs, hu, hfs, hinf⟩ := (hT T ty ht).agg ha
  have hl : z.cells.size = (ty.kinds.map ZcB).length := by rw [← Array.length_toList, hzc]; simp
  obtain ⟨cells, h1, h2, h3⟩ := Zkw (tab := tab) (w := w) (ok := ok) (ρ := ρ) (fun i => ty.fields[i]?.bind fun (fd : Nat × TypeId) => (tab fd.2).map fun ft => (fd.1, ft.kinds.length)) ps vs.toList (ty.kinds.map ZcB) z.cells hl
    (fun j hj => by
      simp at hj
      have e1 : (ty.kinds.map ZcB).getD j .dead = ZcB ty.kinds[j] := by simp [List.getD, hj]
      have e2 : z.cells.getD j undef = ZbS ty.kinds[j] := by rw [← Zbg, hzc]; simp [List.getD, hj]
      rw [e1, e2]; exact .tree (Zku _))
    hm hv hone hf
  obtain ⟨places, hpl⟩ : ∃ places, fs.toList.mapM (fun f => (P.info? f.type).map fun i => (f.offset, i.size)) = some places := by
    generalize fs.toList = l at hinf
    clear hfs
    induction l with
    | nil => exact ⟨[], rfl⟩
    | cons f l ih =>
      obtain ⟨i, hi⟩ := hinf f (by simp)
      obtain ⟨r, hr⟩ := ih fun g hg => hinf g (by simp [hg])
      exact ⟨(f.offset, i.size) :: r, by simp [List.mapM_cons, hi, hr]⟩
  have hplace : ∀ (k : Nat) (q : Nat × Nat), (ty.fields[k]?.bind fun (fd : Nat × TypeId) => (tab fd.2).map fun ft => (fd.1, ft.kinds.length)) = some q → places.toArray[k]? = some q := by
    intro k q hq0
    obtain ⟨fd, hfd, hq1⟩ := Option.bind_eq_some_iff.1 hq0
    clear hq0
    obtain ⟨ft, hft, rfl⟩ := Option.map_eq_some_iff.1 hq1
    clear hq1
    obtain ⟨fi, fz, hfi, hfs', _⟩ := (hT fd.2 ft hft).info
    rw [← hfs] at hfd
    clear hfs hinf h1
    generalize fs.toList = l at hfd hpl
    induction l generalizing k places with
    | nil => simp at hfd
    | cons f l ih =>
      simp only [List.mapM_cons, Option.bind_eq_bind, Option.pure_def] at hpl
      cases hi' : P.info? f.type with
      | none => simp [hi'] at hpl
      | some i' =>
        cases hr : l.mapM (fun f => (P.info? f.type).map fun i => (f.offset, i.size)) with
        | none => simp [hi', hr] at hpl
        | some rest =>
          simp [hi', hr] at hpl
          subst hpl
          cases k with
          | zero =>
            simp at hfd
            subst hfd
            simp at hfi
            rw [hi'] at hfi; cases hfi
            simp [hfs']
          | succ k => simpa using ih rest k (by simpa using hfd) hr
  have hfill : ∀ (vs : List (Nat × Value)) (c c' : Array Value), Instr.fill (fun i => ty.fields[i]?.bind fun (fd : Nat × TypeId) => (tab fd.2).map fun ft => (fd.1, ft.kinds.length)) c vs = some c' → Instr.fill (places.toArray[·]?) c vs = some c' := by
    intro vs
    induction vs with
    | nil => intro c c' h; simpa [Instr.fill] using h
    | cons p vs ih =>
      obtain ⟨i, v⟩ := p
      intro c c' h
      simp only [Instr.fill] at h ⊢
      cases hq : (ty.fields[i]?.bind fun (fd : Nat × TypeId) => (tab fd.2).map fun ft => (fd.1, ft.kinds.length)) with
      | none => simp [hq] at h
      | some q =>
        rw [hq] at h
        rw [hplace i q hq]
        simp only [] at h ⊢
        split at h
        · cases h
        · rename_i hc; rw [if_neg hc]; exact ih _ _ h
  have hbuilt : P.built T vs.toList = some cells := by
    unfold Program.built
    rw [hi, hu]
    simp only [hz, hpl]
    exact hfill _ _ _ h1
  refine ⟨_, run_build (P := P) w T vs cells hbuilt, ?_⟩
  have : Rs tab w ok ρ (.agg (Z1 tab ty.kinds cs)) (.agg cells.toList.toArray) :=
    .agg _ cells.toList (by rw [ZcO, Array.length_toList, h2]) fun j hj => Zg0 _ (by rw [Zbg]; exact h3 j (by rwa [ZcO] at hj))
  simpa using this
theorem Zl8 (hT : Zx P tab) {w : World} {ok : Nat → Prop} {ρ : Nat → Option RB} {t : TypeId} {x r : V} {xv : Value} {f : Nat} (hx : Rs tab w ok ρ x xv) (h : ZiU tab t x f = some r) :
    ∃ v, (Instr.field t xv f).run P w = .ok v w ∧ Rs tab w ok ρ r v := by
  unfold ZiU at h
  obtain ⟨ty, h1, h⟩ := Option.bind_eq_some_iff.1 h
  obtain ⟨fd, h2, h⟩ := Option.bind_eq_some_iff.1 h
  obtain ⟨fs, fx, hu, hfx, ho, hty⟩ := TyOk.field hT h1 h2
  cases x with
  | agg cs =>
    obtain ⟨ft, h3, h4⟩ := Option.bind_eq_some_iff.1 h
    obtain ⟨vals, rfl, hl, hj⟩ := hx.agg_inv
    obtain ⟨k1, k2, rfl⟩ := Zhy h4
    have hft := hT fd.2 ft h3
    have hlen : ((vals.drop fd.1).take ft.kinds.length).length = ft.kinds.length := by simp; omega
    have hlen' : ((cs.drop fd.1).take ft.kinds.length).length = ft.kinds.length := by simp; omega
    refine ⟨Zhx ft.agg ((vals.drop fd.1).take ft.kinds.length), ?_, mk_rs (by rw [hlen, hlen']) (by rw [hlen']; exact k2) fun j hjl => ?_⟩
    · have hsz := hft.sizeOf w
      have hag := hft.isAgg w
      simp only [Instr.field, Sem.run_bind, run_underlying hu, Result.andThen_ok, hfx, asAgg, Sem.run_pure, part, hty, hag, ho]
      cases ha : ft.agg with
      | true =>
        simp only [if_true, Sem.run_bind, hsz, Result.andThen_ok, Sem.run_pure, Zhx]
        congr 2
        apply Array.ext'
        simp
      | false =>
        have h1' := (hft.flat ha).1
        have hlt : fd.1 < vals.length := by omega
        have : vals.toArray[fd.1]? = some vals[fd.1] := by simp [hlt]
        simp only [Bool.false_eq_true, if_false, this, Sem.run_pure, Zhx, h1']
        congr 1
        have : (vals.drop fd.1).take 1 = [vals[fd.1]] := by rw [List.drop_eq_getElem_cons hlt]; rfl
        rw [this]; rfl
    · rw [hlen'] at hjl
      have := hj (fd.1 + j) (by omega)
      simpa [List.getD, List.getElem?_take, hjl, List.getElem?_drop] using this
  | _ => cases h
theorem ZnM (ns : List Int) (s : ByteArray) : Z6 (ns.foldl (fun r n => r.push (UInt8.ofNat n.toNat)) s) = Z6 s ++ ns.map (fun n => V.int .u8 ((n.toNat % 256 : Nat) : Int)) := by
  induction ns generalizing s with
  | nil => simp
  | cons n ns ih =>
    rw [List.foldl_cons, ih]
    have : Z6 (s.push (UInt8.ofNat n.toNat)) = Z6 s ++ [V.int .u8 ((n.toNat % 256 : Nat) : Int)] := by
      simp only [Z6, ByteArray.push, Array.toList_push, List.map_append, List.map_cons, List.map_nil]
      congr 3
    rw [this]; simp
theorem Rp.int_eq {w : World} {ok : Nat → Prop} {k : IntKind} {n : Int} {v : Value} (h : Rp tab w ok (.int k n) v) : v = .int k n := by cases h; rfl
theorem Zkx (hT : Zx P tab) {E : Entry} {M : Mem} (hM : MemOk tab E M) {src dst : TypeId} {x r : V} {xv : Value} {log : List Nat} (hx : M.Rs tab E x xv) (h : ZgM tab src dst x M.hp = some (r, log)) :
    ∃ v, (convert src dst xv).run P M.w = .ok v M.w ∧ M.Rs tab E r v := by
  unfold ZgM at h
  obtain ⟨s, l1, b1, l1', h1, h2, h3⟩ := Zi h
  cases h3
  obtain ⟨h1, -⟩ := Zt h1
  obtain ⟨d, l2, b2, l2', h3, h4, h5⟩ := Zi h2
  cases h5
  obtain ⟨h3, -⟩ := Zt h3
  by_cases hint : ∃ k n, x = .int k n
  · obtain ⟨k1, n, rfl⟩ := hint
    simp only at h4
    obtain ⟨k0, l3, b3, l3', h5, h6, h7⟩ := Zi h4
    cases h7
    obtain ⟨k, l4, b4, l4', h7, h8, h9⟩ := Zi h6
    cases h9
    obtain ⟨h5, -⟩ := Zt h5
    obtain ⟨h7, -⟩ := Zt h7
    obtain ⟨ht, h8⟩ := Zv h8
    cases Zk h8
    simp only [Bool.and_eq_true, Bool.not_eq_true'] at ht
    have hone : ∀ ks k, Zkj ks = some k → ks = [.int k] := by
      intro ks k h
      unfold Zkj at h
      split at h
      · cases h; rfl
      · cases h
    have hu1 := (hT src s h1).int k0 ht.1 (hone _ _ h5)
    have hu2 := (hT dst d h3).int k ht.2 (hone _ _ h7)
    rw [hx.int]
    refine ⟨.int k (k.wrap n), ?_, .tree (.int _ _)⟩
    simp [convert, run_underlying hu1, run_underlying hu2, Conv.intToInt]
  · have h4' : RM.bind (RM.lift (Zkk s.kinds)) (fun e => RM.bind (RM.lift (tab e)) fun et =>
        RM.test (!s.agg && (!d.agg && (!et.agg && (decide (d.kinds = [.str]) && decide (et.kinds = [.int .u8]))))) (RM.bind (ZeM e et x) fun r => RM.ret (V.str (r.map Zay)))) M.hp = some (r, l2') ∧ ∀ l, x ≠ .str l := by
      cases x <;> first | exact absurd ⟨_, _, rfl⟩ hint | exact ⟨h4, by simp⟩ | exact (Zl h4).elim
    obtain ⟨h4', hns⟩ := h4'
    obtain ⟨e, l3, b3, l3', h5, h6, h7⟩ := Zi h4'
    cases h7
    obtain ⟨hse, -⟩ := Zt h5
    have hs : s.kinds = [.sl e] := by
      unfold Zkk at hse
      split at hse
      · cases hse; assumption
      · cases hse
    obtain ⟨et, l4, b4, l4', h5a, h6a, h7a⟩ := Zi h6
    cases h7a
    obtain ⟨h5, -⟩ := Zt h5a
    obtain ⟨ht, h6b⟩ := Zv h6a
    obtain ⟨l, l5, b5, l5', h7, h8, h9⟩ := Zi h6b
    cases h9
    cases Zk h8
    simp only [Bool.and_eq_true, Bool.not_eq_true', decide_eq_true_eq] at ht
    obtain ⟨hsa, hda, hea, hd, hek⟩ := ht
    have hu1 := (hT src s h1).slice e hsa hs
    have hu2 := (hT dst d h3).strs hda hd
    have hu3 := (hT e et h5).int .u8 hea hek
    obtain ⟨news, n1, n2, n3⟩ := Zd2 (P := P) hM h5 hx h7
    have hk1 : et.kinds.length = 1 := by rw [hek]; rfl
    have hsl : ∃ a n c, xv = .slice a n c := by
      cases x with
      | sl => cases hx with
        | tree hx => cases hx
        | sl => exact ⟨_, _, _, rfl⟩
      | inl => cases hx.inl with | inl => exact ⟨_, _, _, rfl⟩
      | nil => obtain ⟨a, rfl⟩ := hx.nil; exact ⟨_, _, _, rfl⟩
      | str l' => exact absurd rfl (hns _)
      | _ => exact (Zl (h := M.hp) h7).elim
    obtain ⟨a, n, c, rfl⟩ := hsl
    have hn : n = l.length := by simpa [Builtin.lenOf] using n2
    subst hn
    rw [run_convert_bytes_string (P := P) M.w src dst e a l.length c hu1 hu3 hu2]
    have hf := n3 l.length (Nat.le_refl _) M.w fun _ _ => rfl
    rw [hk1, Nat.mul_one] at hf
    have hnl : news.length = l.length := by rw [n1.1, hk1, Nat.mul_one]
    rw [← hnl, List.take_length] at hf
    have hall : news = (l.map V.I).map (Value.int .u8) := by
      refine List.ext_getElem (by simp [hnl]) fun i hi1 hi2 => ?_
      have hi : i < l.length := by rw [← hnl]; exact hi1
      have hk := (n1.2.1 i hi).2.2.2 0 (by rw [hk1]; exact Nat.one_pos)
      have hr := n1.2.2 i 0 hi (by rw [hk1]; exact Nat.one_pos)
      rw [hk1, Nat.mul_one, Nat.add_zero, Zcm _ _ _ hi1] at hr
      have hkk : et.kinds.getD 0 .other = .int .u8 := by rw [hek]; rfl
      rw [hkk] at hk
      have hsh := n1.2.1 i hi
      have hc0 : (l.getD i .dead).cell 0 = l.getD i .dead := by
        have hna := hsh.2.2.1 hea
        cases hx : l.getD i .dead <;> first | rfl | exact absurd hx (hna _)
      rw [hc0, Zcm _ _ _ hi] at hk hr
      cases hx : l[i] <;> rw [hx] at hk hr <;> simp [kindOk] at hk
      subst hk
      rw [hr.int_eq]
      simp [hx, V.I]
    have key : ∀ s, Z6 s = (l.map V.I).map (fun n => V.int .u8 ((n.toNat % 256 : Nat) : Int)) → M.Rs tab E (.str (l.map Zay)) (.string s) := by
      intro s hs
      refine .tree (.str _ _ ?_)
      rw [hs]; simp [Zay]
    cases a with
    | none =>
      have h0 : news = [] := by
        rw [run_firstCells_none] at hf
        simpa using hf.symm
      have hl0 : l = [] := List.eq_nil_of_length_eq_zero (by rw [← hnl, h0]; rfl)
      refine ⟨.string .empty, by simp [Conv.bytesToString], key _ ?_⟩
      rw [hl0]; rfl
    | some a =>
      have hlc : (loadCells a l.length).run P M.w = .ok ((l.map V.I).map (Value.int .u8)).toArray M.w := by
        have := hf
        simp only [Builtin.firstCells, Nat.mul_one] at this
        rw [hnl] at this
        rw [this, ← hall]
      refine ⟨_, run_bytesToString (P := P) M.w a l.length c (l.map V.I) hlc, key _ ?_⟩
      rw [ZnM]; rfl
end
end Go.Eng
namespace Go.Eng
section
variable {P : Program} {tab : Tab}
inductive RqL (R : V → Value → List Nat → List Nat → Prop) : List V → List Value → List Nat → List Nat → Prop where
  | nil : RqL R [] [] [] []
  | cons {x : V} {v : Value} {t n : List Nat} {xs : List V} {vs : List Value} {ts ns : List Nat} : R x v t n → RqL R xs vs ts ns → RqL R (x :: xs) (v :: vs) (t ++ ts) (n ++ ns)
inductive Rq1 (tab : Tab) (w : World) (ok : Nat → Prop) : V → Value → List Nat → List Nat → Prop where
  | tree {x : V} {v : Value} : Rp tab w ok x v → Rq1 tab w ok x v [] []
  | row {T : TypeId} {own : Bool} {els : List V} {v : Value} {n : List Nat} : RowT tab w ok T own els v n → Rq1 tab w ok (.rr T own els) v (Zp v) n
  | deep {T : TypeId} {els : List V} {v : Value} {n : List Nat} : RowT tab w ok T true els v n → Rq1 tab w ok (.dr T els) v (Zp v ++ n) []
inductive Rq2 (tab : Tab) (w : World) (ok : Nat → Prop) : V → Value → List Nat → List Nat → Prop where
  | one {x : V} {v : Value} {t n : List Nat} : Rq1 tab w ok x v t n → Rq2 tab w ok x v t n
  | agg {cs : List V} {vs : List Value} {t n : List Nat} : RqL (Rq1 tab w ok) cs vs t n → Rq2 tab w ok (.agg cs) (.agg vs.toArray) t n
  | nb {T : TypeId} {cs : List V} {c : Array Value} {TT : TypeId} {g : Nat} {t n : List Nat} : RqL (Rq1 tab w ok) cs c.toList t n → w.heap[g]? = some (.cells c TT (0, 0)) →
      Rq2 tab w ok (.nb T cs) (.pointer (some ⟨g, 0, none⟩)) (g :: t) n
  | rf {T : TypeId} {cs : List V} {c : Array Value} {TT : TypeId} {g : Nat} {t n : List Nat} : RqL (Rq1 tab w ok) cs c.toList t n → w.heap[g]? = some (.cells c TT (0, 0)) →
      Rq2 tab w ok (.rf T cs) (.pointer (some ⟨g, 0, none⟩)) (g :: t) n
  | ro {T : TypeId} {off : Nat} {cs : List V} {c : Array Value} {TT : TypeId} {g : Nat} {t n : List Nat} : RqL (Rq1 tab w ok) cs c.toList t n → w.heap[g]? = some (.cells c TT (0, 0)) →
      Rq2 tab w ok (.ro T off cs) (.pointer (some ⟨g, off, none⟩)) (g :: t) n
inductive Rq3 (tab : Tab) (w : World) (ok : Nat → Prop) : V → Value → List Nat → List Nat → Prop where
  | one {x : V} {v : Value} {t n : List Nat} : Rq2 tab w ok x v t n → Rq3 tab w ok x v t n
  | tup {cs : List V} {vs : List Value} {t n : List Nat} : RqL (Rq2 tab w ok) cs vs t n → Rq3 tab w ok (.tup cs) (.tuple vs.toArray) t n
theorem RqL.mono {R R' : V → Value → List Nat → List Nat → Prop} (h : ∀ x v t n, R x v t n → R' x v t n) {xs : List V} {vs : List Value} {t n : List Nat} (hr : RqL R xs vs t n) : RqL R' xs vs t n := by
  induction hr with
  | nil => exact .nil
  | cons h1 _ ih => exact .cons (h _ _ _ _ h1) ih
theorem RqL.length {R : V → Value → List Nat → List Nat → Prop} {xs : List V} {vs : List Value} {t n : List Nat} (hr : RqL R xs vs t n) : vs.length = xs.length := by
  induction hr with
  | nil => rfl
  | cons _ _ ih => simp [ih]
theorem RqL.of_trees {w : World} {ok : Nat → Prop} : ∀ {cs : List V} {vs : List Value}, vs.length = cs.length → (∀ j, j < cs.length → Rp tab w ok (cs.getD j .dead) (vs.getD j undef)) →
    RqL (Rq1 tab w ok) cs vs [] []
  | [], [], _, _ => .nil
  | c :: cs, v :: vs, hl, h => .cons (t := []) (n := []) (.tree (by simpa using h 0 (by simp))) (RqL.of_trees (by simpa using hl) fun j hj => by simpa using h (j + 1) (by simpa using hj))
  | [], _ :: _, hl, _ => by simp at hl
  | _ :: _, [], hl, _ => by simp at hl
structure Bd where
  blk : Blk
  rb : RB
  t : List Nat
  n : List Nat
def Adopted (tab : Tab) (w : World) (ok : Nat → Prop) (nid : Nat) (bs : List Blk) (t n : List Nat) (S : (Nat → Option RB) → Prop) : Prop :=
  ∃ Bs : List Bd, bs = Bs.map (·.blk) ∧ t = Bs.flatMap (·.t) ∧ n = Bs.flatMap (·.n) ∧
    ∀ ρ, (∀ k b, Bs[k]? = some b → ρ (nid + k) = some b.rb) → S ρ ∧ ∀ b ∈ Bs, BlkIs tab w ok ρ b.blk (some b.rb) b.t b.n
theorem Adopted.none {w : World} {ok : Nat → Prop} {nid : Nat} {S : (Nat → Option RB) → Prop} (h : ∀ ρ, S ρ) : Adopted tab w ok nid [] [] [] S :=
  ⟨[], rfl, rfl, rfl, fun ρ _ => ⟨h ρ, by simp⟩⟩
theorem Adopted.append {w : World} {ok : Nat → Prop} {nid : Nat} {b1 b2 : List Blk} {t1 n1 t2 n2 : List Nat} {S1 S2 S : (Nat → Option RB) → Prop}
    (h1 : Adopted tab w ok nid b1 t1 n1 S1) (h2 : Adopted tab w ok (nid + b1.length) b2 t2 n2 S2) (hS : ∀ ρ, S1 ρ → S2 ρ → S ρ) : Adopted tab w ok nid (b1 ++ b2) (t1 ++ t2) (n1 ++ n2) S := by
  obtain ⟨B1, rfl, rfl, rfl, k1⟩ := h1
  obtain ⟨B2, rfl, rfl, rfl, k2⟩ := h2
  refine ⟨B1 ++ B2, by simp, by simp, by simp, fun ρ hρ => ?_⟩
  obtain ⟨s1, e1⟩ := k1 ρ fun k b hb => hρ k b (by
    rw [List.getElem?_append_left (List.getElem?_eq_some_iff.1 hb).1]; exact hb)
  obtain ⟨s2, e2⟩ := k2 ρ fun k b hb => by
    have := hρ (B1.length + k) b (by rw [List.getElem?_append_right (by omega)]; simpa using hb)
    simpa [Nat.add_assoc] using this
  exact ⟨hS ρ s1 s2, fun b hb => (List.mem_append.1 hb).elim (e1 b) (e2 b)⟩
theorem Adopted.weaken {w : World} {ok : Nat → Prop} {nid : Nat} {bs : List Blk} {t n : List Nat} {S S' : (Nat → Option RB) → Prop} (h : Adopted tab w ok nid bs t n S) (hS : ∀ ρ, S ρ → S' ρ) :
    Adopted tab w ok nid bs t n S' := by
  obtain ⟨B, e1, e2, e3, k⟩ := h
  exact ⟨B, e1, e2, e3, fun ρ hρ => ⟨hS ρ (k ρ hρ).1, (k ρ hρ).2⟩⟩
theorem Zjn {w : World} {ok : Nat → Prop} {x : V} {v : Value} (h : Rp tab w ok x v) (nid : Nat) : ZaV nid x = (x, []) := by
  cases h <;> rfl
theorem ZcW {w : World} {ok : Nat → Prop} {x : V} {v : Value} {t n : List Nat} (h : Rq1 tab w ok x v t n) (nid : Nat) :
    Adopted tab w ok nid (ZaV nid x).2 t n fun ρ => Rs tab w ok ρ (ZaV nid x).1 v := by
  cases h with
  | tree h => rw [Zjn h]; exact .none fun ρ => .tree h
  | row hrow =>
    rename_i T own els
    obtain ⟨ty, xs, ht, hr, -⟩ := id hrow
    refine ⟨[⟨.row T own els, .row T ty.kinds.length els.length v, Zp v, n⟩], rfl, by simp, by simp, fun ρ hρ => ⟨?_, fun b hb => ?_⟩⟩
    · have h0 := hρ 0 _ rfl
      simp only [Nat.add_zero] at h0
      rcases hr.2 with ⟨a, rfl, hz⟩ | ⟨g, cap, cur, rfl, hc, hg, hn, hm, r⟩
      · have := Rs.sl (tab := tab) (w := w) (ok := ok) (ρ := ρ) nid T 0 none ty.kinds.length els.length a a 0 els.length (by rw [hz] at h0 ⊢; exact h0) (by omega) (by simp) (by simp) (by omega) (fun _ => rfl)
        rw [hz] at this
        exact this
      · exact Rs.sl nid T 0 none ty.kinds.length els.length _ _ cap els.length h0 hn (by simp) (by simp) (fun _ => by simp [Addr.add]) (fun _ => rfl)
    · simp at hb; subst hb
      exact ⟨ty, v, ht, rfl, hrow, rfl⟩
  | @deep T els _ n hrow =>
    obtain ⟨ty, xs, ht, hr, -⟩ := id hrow
    refine ⟨[⟨.drow T els, .row T ty.kinds.length els.length v, Zp v ++ n, []⟩], rfl, by simp, by simp, fun ρ hρ => ⟨?_, fun b hb => ?_⟩⟩
    · have h0 := hρ 0 _ rfl
      simp only [Nat.add_zero] at h0
      rcases hr.2 with ⟨a, rfl, hz⟩ | ⟨g, cap, cur, rfl, hc, hg, hn, hm, r⟩
      · have := Rs.sl (tab := tab) (w := w) (ok := ok) (ρ := ρ) nid T 0 none ty.kinds.length els.length a a 0 els.length (by rw [hz] at h0 ⊢; exact h0) (by omega) (by simp) (by simp) (by omega) (fun _ => rfl)
        rw [hz] at this
        exact this
      · exact Rs.sl nid T 0 none ty.kinds.length els.length _ _ cap els.length h0 hn (by simp) (by simp) (fun _ => by simp [Addr.add]) (fun _ => rfl)
    · simp at hb; subst hb
      exact ⟨ty, v, n, ht, rfl, hrow, rfl, rfl⟩
def RsL (tab : Tab) (w : World) (ok : Nat → Prop) (ρ : Nat → Option RB) (xs : List V) (vs : List Value) : Prop :=
  vs.length = xs.length ∧ ∀ j, j < xs.length → Rs tab w ok ρ (xs.getD j .dead) (vs.getD j undef)
theorem RsL.cons {w : World} {ok : Nat → Prop} {ρ : Nat → Option RB} {x : V} {v : Value} {xs : List V} {vs : List Value} (h : Rs tab w ok ρ x v) (hs : RsL tab w ok ρ xs vs) : RsL tab w ok ρ (x :: xs) (v :: vs) := by
  refine ⟨by simp [hs.1], fun j hj => ?_⟩
  cases j with
  | zero => simpa using h
  | succ j => simpa using hs.2 j (by simpa using hj)
theorem RsL.nil {w : World} {ok : Nat → Prop} {ρ : Nat → Option RB} : RsL tab w ok ρ [] [] := ⟨rfl, by simp⟩
theorem Zey {w : World} {ok : Nat → Prop} {R : V → Value → List Nat → List Nat → Prop} {f : Nat → V → V × List Blk}
    (hf : ∀ x v t n nid, R x v t n → Adopted tab w ok nid (f nid x).2 t n fun ρ => Rs tab w ok ρ (f nid x).1 v) {xs : List V} {vs : List Value} {t n : List Nat} (h : RqL R xs vs t n) :
    ∀ nid, Adopted tab w ok nid (Zaz f nid xs).2 t n fun ρ => RsL tab w ok ρ (Zaz f nid xs).1 vs := by
  induction h with
  | nil => exact fun nid => .none fun ρ => .nil
  | cons h1 _ ih =>
    intro nid
    exact (hf _ _ _ _ nid h1).append (ih _) fun ρ s1 s2 => RsL.cons s1 s2
theorem Zg4 {w : World} {ok : Nat → Prop} {T : TypeId} {cs : List V} {c : Array Value} {TT : TypeId} {g : Nat} {t n : List Nat} (h : RqL (Rq1 tab w ok) cs c.toList t n)
    (hg : w.heap[g]? = some (.cells c TT (0, 0))) (nid off : Nat) :
    Adopted tab w ok nid (.box T (Zaz ZaV (nid + 1) cs).1 :: (Zaz ZaV (nid + 1) cs).2) (g :: t) n fun ρ => Rs tab w ok ρ (.bp nid off) (.pointer (some ⟨g, off, none⟩)) := by
  obtain ⟨Bs, e1, rfl, rfl, hk⟩ := Zey (R := Rq1 tab w ok) (f := ZaV) (fun x v t n nid h => ZcW h nid) h (nid + 1)
  refine ⟨⟨.box T (Zaz ZaV (nid + 1) cs).1, .box g, [g], []⟩ :: Bs, by simp [e1], by simp, by simp, fun ρ hρ => ?_⟩
  have h0 := hρ 0 _ rfl
  simp only [Nat.add_zero] at h0
  obtain ⟨⟨s1, s2⟩, hb⟩ := hk ρ fun k b hb => by
    have := hρ (k + 1) b (by simpa using hb)
    rw [← this]; congr 1; omega
  refine ⟨.bp nid off g h0, fun b hb' => ?_⟩
  rcases List.mem_cons.1 hb' with rfl | hb'
  · exact ⟨g, c, TT, rfl, hg, by simpa using s1, fun j hj => by have := s2 j hj; rw [Zbg] at this; exact this, rfl, rfl⟩
  · exact hb b hb'
theorem Ze9 {w : World} {ok : Nat → Prop} {x : V} {v : Value} {t n : List Nat} (h : Rq2 tab w ok x v t n) (nid : Nat) :
    Adopted tab w ok nid (ZbX nid x).2 t n fun ρ => Rs tab w ok ρ (ZbX nid x).1 v := by
  have hagg : ∀ (cs : List V) (vs : List Value) (t n : List Nat), RqL (Rq1 tab w ok) cs vs t n → Adopted tab w ok nid (ZbX nid (.agg cs)).2 t n fun ρ => Rs tab w ok ρ (ZbX nid (.agg cs)).1 (.agg vs.toArray) :=
    fun cs vs t n h => (Zey (R := Rq1 tab w ok) (f := ZaV) (fun x v t n nid h => ZcW h nid) h nid).weaken fun ρ hs => Rs.agg _ _ hs.1 hs.2
  cases h with
  | agg h => exact hagg _ _ _ _ h
  | nb h hg => exact Zg4 h hg nid 0
  | rf h hg => exact Zg4 h hg nid 0
  | ro h hg => exact Zg4 h hg nid _
  | one h =>
    cases h with
    | row h => exact ZcW (.row h) nid
    | deep h => exact ZcW (.deep h) nid
    | tree h =>
      cases h with
      | agg cs vals hl h => exact hagg cs vals [] [] (.of_trees hl h)
      | _ => exact .none fun ρ => .tree (by constructor <;> assumption)
theorem Zh5 {w : World} {ok : Nat → Prop} {x : V} {v : Value} {t n : List Nat} (h : Rq3 tab w ok x v t n) (nid : Nat) :
    Adopted tab w ok nid (Zdm nid x).2 t n fun ρ => Rs tab w ok ρ (Zdm nid x).1 v := by
  cases h with
  | tup h => exact (Zey (R := Rq2 tab w ok) (f := ZbX) (fun x v t n nid h => Ze9 h nid) h nid).weaken fun ρ hs => Rs.tup _ _ hs.1 hs.2
  | one h =>
    have := Ze9 h nid
    cases h with
    | one h =>
      cases h with
      | row h => exact this
      | deep h => exact this
      | tree h => cases h <;> exact this
    | _ => exact this
end
end Go.Eng
namespace Go.Eng
section
variable {P : Program} {tab : Tab}
structure Given (E : Entry) (M : Mem) (K S t n : List Nat) (Q : (Nat → Prop) → Prop) : Prop where
  top : ∀ g ∈ t, ∃ k ∈ K, g ∈ M.top k
  nest : ∀ g ∈ n, g ∈ M.foot K
  nodup : K.Nodup → (t ++ n).Nodup
  is : K.Nodup → ∀ ok' : Nat → Prop, (∀ g, okS E M g → ok' g) → (∀ k ∈ K, ∀ g ∈ M.top k, g ∉ t → ok' g) → (∀ k ∈ S, ∀ g ∈ M.top k, ok' g) → Q ok'
theorem Given.none {E : Entry} {M : Mem} {Q : (Nat → Prop) → Prop} (h : ∀ ok' : Nat → Prop, (∀ g, okS E M g → ok' g) → Q ok') : Given E M [] [] [] [] Q :=
  ⟨by simp, by simp, by simp, fun _ ok' h1 _ _ => h ok' h1⟩
theorem Given.mono {E : Entry} {M : Mem} {K S t n : List Nat} {Q Q' : (Nat → Prop) → Prop} (h : Given E M K S t n Q) (hQ : ∀ ok', Q ok' → Q' ok') : Given E M K S t n Q' :=
  ⟨h.top, h.nest, h.nodup, fun k ok' h1 h2 h3 => hQ _ (h.is k ok' h1 h2 h3)⟩
theorem Given.foot {E : Entry} {M : Mem} {K S t n : List Nat} {Q : (Nat → Prop) → Prop} (h : Given E M K S t n Q) : ∀ g ∈ t ++ n, g ∈ M.foot K := by
  intro g hg
  rcases List.mem_append.1 hg with hg | hg
  · obtain ⟨k, hk, hgk⟩ := h.top g hg
    exact Mem.mem_foot.2 ⟨k, hk, List.mem_append_left _ hgk⟩
  · exact h.nest g hg
theorem Zl9 {t1 n1 t2 n2 : List Nat} (h1 : (t1 ++ n1).Nodup) (h2 : (t2 ++ n2).Nodup) (h : ∀ g ∈ t1 ++ n1, g ∉ t2 ++ n2) : ((t1 ++ t2) ++ (n1 ++ n2)).Nodup := by
  have hp : ((t1 ++ t2) ++ (n1 ++ n2)).Perm ((t1 ++ n1) ++ (t2 ++ n2)) := by
    rw [List.append_assoc, List.append_assoc]
    exact List.Perm.append_left t1 (List.perm_append_comm_assoc _ _ _)
  rw [hp.nodup_iff, List.nodup_append]
  exact ⟨h1, h2, fun a ha b hb e => h a ha (e ▸ hb)⟩
theorem Given.append {E : Entry} {M : Mem} (hM : MemOk tab E M) {K1 S1 t1 n1 K2 S2 t2 n2 : List Nat} {Q1 Q2 Q : (Nat → Prop) → Prop} (h1 : Given E M K1 S1 t1 n1 Q1) (h2 : Given E M K2 S2 t2 n2 Q2)
    (hQ : ∀ ok', Q1 ok' → Q2 ok' → Q ok') : Given E M (K1 ++ K2) (S1 ++ S2) (t1 ++ t2) (n1 ++ n2) Q := by
  have hap : (K1 ++ K2).Nodup → ∀ g ∈ M.foot K1, g ∉ M.foot K2 := fun hk => by
    rw [List.nodup_append] at hk
    exact hM.foot_apart fun k hk1 hk2 => hk.2.2 k hk1 k hk2 rfl
  refine ⟨fun g hg => ?_, fun g hg => ?_, fun hk => ?_, fun hk ok' o1 o2 o3 => ?_⟩
  · rcases List.mem_append.1 hg with hg | hg
    · obtain ⟨k, hk, hgk⟩ := h1.top g hg; exact ⟨k, List.mem_append_left _ hk, hgk⟩
    · obtain ⟨k, hk, hgk⟩ := h2.top g hg; exact ⟨k, List.mem_append_right _ hk, hgk⟩
  · unfold Mem.foot
    rw [List.flatMap_append]
    rcases List.mem_append.1 hg with hg | hg
    · exact List.mem_append_left _ (h1.nest g hg)
    · exact List.mem_append_right _ (h2.nest g hg)
  · have hk' := List.nodup_append.1 hk
    exact Zl9 (h1.nodup hk'.1) (h2.nodup hk'.2.1) fun g hg hg' => hap hk g (h1.foot g hg) (h2.foot g hg')
  · have hk' := List.nodup_append.1 hk
    refine hQ ok' (h1.is hk'.1 ok' o1 (fun k hkk g hg hgt => o2 k (List.mem_append_left _ hkk) g hg fun hg' => ?_) fun k hkk => o3 k (List.mem_append_left _ hkk))
      (h2.is hk'.2.1 ok' o1 (fun k hkk g hg hgt => o2 k (List.mem_append_right _ hkk) g hg fun hg' => ?_) fun k hkk => o3 k (List.mem_append_right _ hkk))
    · rcases List.mem_append.1 hg' with hg' | hg'
      · exact hgt hg'
      · exact hap hk g (Mem.mem_foot.2 ⟨k, hkk, List.mem_append_left _ hg⟩) (h2.foot g (List.mem_append_left _ hg'))
    · rcases List.mem_append.1 hg' with hg' | hg'
      · exact hap hk g (h1.foot g (List.mem_append_left _ hg')) (Mem.mem_foot.2 ⟨k, hkk, List.mem_append_left _ hg⟩)
      · exact hgt hg'
theorem ZhG {E : Entry} {M : Mem} (hM : MemOk tab E M) {x y : V} {v : Value} {S log : List Nat} (hx : M.Rs tab E x v) (h : ZdR x M.hp = some ((y, S), log)) :
    Given E M [] S [] [] fun ok' => Rp tab M.w ok' y v := by
  refine ⟨by simp, by simp, by simp, fun _ ok' h1 _ h3 => ?_⟩
  have htree : Rp tab M.w (okS E M) y v → Rp tab M.w ok' y v := fun hr => hr.keep h1 fun _ _ => rfl
  cases x with
  | sl id T off len =>
    obtain ⟨blk, l1, b1, l1', h6, h7, h8⟩ := Zi h
    cases h8
    obtain ⟨h6, -⟩ := ZaD h6
    cases blk with
    | box T cs => exact (Zl h7).elim
    | drow T' els =>
      cases Zk h7
      exact sl_treeD hM hx h6 (h3 id (by simp))
    | hrow _ _ _ _ _ => exact (Zl h7).elim
    | grow _ _ => exact (Zl h7).elim
    | row T' own' els =>
      cases Zk h7
      exact Zgj hM hx h6 h1 (h3 id (by simp))
  | inl T l => cases Zk (h := M.hp) h; exact htree hx.inl
  | nil T => cases Zk (h := M.hp) h; obtain ⟨a, rfl⟩ := hx.nil; exact .nil _ _
  | int k n => cases Zk (h := M.hp) h; rw [hx.int]; exact .int _ _
  | bool b => cases Zk (h := M.hp) h; rw [hx.bool]; exact .bool _
  | str l => cases Zk (h := M.hp) h; obtain ⟨s, rfl, hs⟩ := hx.str; exact .str _ _ hs
  | ep cs off => cases Zk (h := M.hp) h; exact htree hx.ep
  | _ => exact (Zl (h := M.hp) h).elim
theorem Zfa {E : Entry} {M : Mem} (hM : MemOk tab E M) {x y : V} {v : Value} {K log : List Nat} (hx : M.Rs tab E x v) (h : ZbW x M.hp = some ((y, K), log)) :
    ∃ t n, Given E M K [] t n fun ok' => Rq1 tab M.w ok' y v t n := by
  have htree : K = [] → (∀ ok' : Nat → Prop, (∀ g, okS E M g → ok' g) → Rp tab M.w ok' y v) → ∃ t n, Given E M K [] t n fun ok' => Rq1 tab M.w ok' y v t n := fun e hr => by
    subst e; exact ⟨[], [], .none fun ok' h => .tree (hr ok' h)⟩
  cases x with
  | sl id T off len =>
    obtain ⟨blk, l1, b1, l1', h6, h7, h8⟩ := Zi h
    cases h8
    obtain ⟨h6, -⟩ := ZaD h6
    cases blk with
    | box T cs => exact (Zl h7).elim
    | drow T' els =>
      by_cases hfull : off = 0 ∧ len = none
      · obtain ⟨rfl, rfl⟩ := hfull
        cases Zk h7
        obtain ⟨rfl, ty', a, a', cap, m, q1, q2, q3, q4, q5, q6, q7, rfl, q8, q9⟩ := hM.sl' hx h6 rfl
        obtain ⟨ty2, v2, xs, F, k1, k2, k3, k4, k5, k6, k7, k8⟩ := hM.drow h6
        obtain rfl : ty2 = ty' := Option.some.inj (k1.symm.trans q1)
        have e2 := k2.symm.trans q2
        simp only [Option.some.injEq, RB.row.injEq, true_and] at e2
        subst e2
        obtain rfl := q7 rfl
        simp only [Option.getD_none, Nat.sub_zero] at q4
        subst q4
        have hnd := hM.nodup id
        refine ⟨M.top id, [], fun g hg => ⟨id, by simp, hg⟩, by simp, fun _ => by simpa [k7] using hnd, fun _ ok' h1 _ _ => ?_⟩
        have := Rq1.deep (ok := ok') (k8.keep (fun _ h => h.elim) (fun _ h => h.elim) fun _ _ => rfl)
        rw [← k6] at this
        exact this
      · have h7' : (RM.fail : RM (V × List Nat)) M.hp = some ((y, K), l1') := by
          rw [← h7]
          dsimp only
          split
          · exact absurd ⟨rfl, rfl⟩ hfull
          · rfl
        exact (Zl h7').elim
    | hrow _ _ _ _ _ => exact (Zl h7).elim
    | grow _ _ => exact (Zl h7).elim
    | row T' own' els =>
      by_cases hfull : off = 0 ∧ len = none
      · obtain ⟨rfl, rfl⟩ := hfull
        cases Zk h7
        obtain rfl := hM.sl_ty hx h6
        obtain ⟨ty2, v2, xs, k1, k2, k3, k4, k5, k6, k7⟩ := hM.row h6
        obtain ⟨ty', a, a', cap, m, q1, q2, q3, q4, q5, q6, q7, rfl, q8, q9⟩ := hM.sl hx h6
        obtain rfl : ty2 = ty' := Option.some.inj (k1.symm.trans q1)
        have e2 := k2.symm.trans q2
        simp only [Option.some.injEq, RB.row.injEq, true_and] at e2
        subst e2
        obtain rfl := q7 rfl
        simp only [Option.getD_none, Nat.sub_zero] at q4
        subst q4
        have hnd := hM.nodup id
        refine ⟨M.top id, M.nest id, fun g hg => ⟨id, by simp, hg⟩, fun g hg => by simp [Mem.foot, hg], fun _ => hnd, fun _ ok' h1 _ _ => ?_⟩
        have hr : RowT tab M.w ok' T own' els (.slice a' els.length cap) (M.nest id) := k6.keep h1 (fun _ _ => rfl) fun _ _ => rfl
        have := Rq1.row hr
        rw [← k5] at this
        exact this
      · have h7' : RM.ret (V.inl T (cut els off len), [id]) M.hp = some ((y, K), l1') := by
          rw [← h7]
          dsimp only
          split
          · exact absurd ⟨rfl, rfl⟩ hfull
          · rfl
        cases Zk h7'
        exact ⟨[], [], by simp, by simp, by simp, fun _ ok' h1 h2 _ => .tree (Zgj hM hx h6 h1 fun g hg => h2 id (by simp) g hg (by simp))⟩
  | inl T l => cases Zk (h := M.hp) h; exact htree rfl fun ok' h1 => hx.inl.keep h1 fun _ _ => rfl
  | nil T => cases Zk (h := M.hp) h; obtain ⟨a, rfl⟩ := hx.nil; exact htree rfl fun _ _ => .nil _ _
  | int k n => cases Zk (h := M.hp) h; obtain rfl := hx.int; exact htree rfl fun _ _ => .int _ _
  | bool b => cases Zk (h := M.hp) h; obtain rfl := hx.bool; exact htree rfl fun _ _ => .bool _
  | str l => cases Zk (h := M.hp) h; obtain ⟨s, rfl, hs⟩ := hx.str; exact htree rfl fun _ _ => .str _ _ hs
  | ep cs off => cases Zk (h := M.hp) h; exact htree rfl fun ok' h1 => hx.ep.keep h1 fun _ _ => rfl
  | _ => exact (Zl (h := M.hp) h).elim
theorem RsL.head {w : World} {ok : Nat → Prop} {ρ : Nat → Option RB} {x : V} {v : Value} {xs : List V} {vs : List Value} (h : RsL tab w ok ρ (x :: xs) (v :: vs)) : Rs tab w ok ρ x v ∧ RsL tab w ok ρ xs vs :=
  ⟨by simpa using h.2 0 (by simp), by simpa using h.1, fun j hj => by simpa using h.2 (j + 1) (by simpa using hj)⟩
theorem Zfb {E : Entry} {M : Mem} (hM : MemOk tab E M) {R : (Nat → Prop) → V → Value → List Nat → List Nat → Prop} {f : V → RM (V × List Nat)}
    (hf : ∀ x v y K log, M.Rs tab E x v → f x M.hp = some ((y, K), log) → ∃ t n, Given E M K [] t n fun ok' => R ok' y v t n) :
    ∀ (xs : List V) (vs : List Value) {ys : List V} {K log : List Nat}, RsL tab M.w (okS E M) M.ρ xs vs → ZbV f xs M.hp = some ((ys, K), log) →
      ∃ t n, Given E M K [] t n fun ok' => RqL (R ok') ys vs t n
  | [], [], ys, K, log, _, h => by
    cases Zk (h := M.hp) h
    exact ⟨[], [], .none fun _ _ => .nil⟩
  | [], _ :: _, _, _, _, hr, _ => by have := hr.1; simp at this
  | _ :: _, [], _, _, _, hr, _ => by have := hr.1; simp at this
  | x :: xs, v :: vs, ys, K, log, hr, h => by
    obtain ⟨⟨y, k⟩, l1, b1, l1', h1, h2, h3⟩ := Zi h
    obtain ⟨⟨ys', k'⟩, l2, b2, l2', h4, h5, h6⟩ := Zi h2
    cases Zk h5
    cases h3
    cases h6
    obtain ⟨t1, n1, g1⟩ := hf _ _ _ _ _ hr.head.1 h1
    obtain ⟨t2, n2, g2⟩ := Zfb hM hf xs vs hr.head.2 h4
    exact ⟨_, _, g1.append hM g2 fun ok' q1 q2 => .cons q1 q2⟩
theorem Zgc {E : Entry} {M : Mem} (hM : MemOk tab E M) {f : V → RM (V × List Nat)}
    (hf : ∀ x v y S log, M.Rs tab E x v → f x M.hp = some ((y, S), log) → Given E M [] S [] [] fun ok' => Rp tab M.w ok' y v) :
    ∀ (xs : List V) (vs : List Value) {ys : List V} {S log : List Nat}, RsL tab M.w (okS E M) M.ρ xs vs → ZbV f xs M.hp = some ((ys, S), log) →
      Given E M [] S [] [] fun ok' => vs.length = ys.length ∧ ∀ j, j < ys.length → Rp tab M.w ok' (ys.getD j .dead) (vs.getD j undef)
  | [], [], ys, S, log, _, h => by
    cases Zk (h := M.hp) h
    exact .none fun _ _ => ⟨rfl, by simp⟩
  | [], _ :: _, _, _, _, hr, _ => by have := hr.1; simp at this
  | _ :: _, [], _, _, _, hr, _ => by have := hr.1; simp at this
  | x :: xs, v :: vs, ys, S, log, hr, h => by
    obtain ⟨⟨y, k⟩, l1, b1, l1', h1, h2, h3⟩ := Zi h
    obtain ⟨⟨ys', k'⟩, l2, b2, l2', h4, h5, h6⟩ := Zi h2
    cases Zk h5
    cases h3
    cases h6
    have g1 := hf _ _ _ _ _ hr.head.1 h1
    have g2 := Zgc hM hf xs vs hr.head.2 h4
    refine (g1.append hM g2 (Q := fun ok' => (v :: vs).length = (y :: ys').length ∧ ∀ j, j < (y :: ys').length → Rp tab M.w ok' ((y :: ys').getD j .dead) ((v :: vs).getD j undef)) fun ok' q1 q2 => ⟨by simp [q2.1], fun j hj => ?_⟩)
    cases j with
    | zero => simpa using q1
    | succ j => simpa using q2.2 j (by simpa using hj)
theorem Zfc {E : Entry} {M : Mem} (hM : MemOk tab E M) {mkv : TypeId → List V → V} (hmk : mkv = .nb ∨ mkv = .rf) {x y : V} {v : Value} {K log : List Nat} (hx : M.Rs tab E x v)
    (h : Zc4 mkv x M.hp = some ((y, K), log)) : ∃ t n, Given E M K [] t n fun ok' => Rq2 tab M.w ok' y v t n := by
  have hother : ZbW x M.hp = some ((y, K), log) → ∃ t n, Given E M K [] t n fun ok' => Rq2 tab M.w ok' y v t n := fun h => by
    obtain ⟨t, n, g⟩ := Zfa hM hx h
    exact ⟨t, n, g.mono fun ok' q => .one q⟩
  cases x with
  | bp id off =>
    cases off with
    | succ off => exact (Zl (h := M.hp) h).elim
    | zero =>
      obtain ⟨blk, l1, b1, l1', h6, h7, h8⟩ := Zi h
      cases h8
      obtain ⟨h6, -⟩ := ZaD h6
      cases blk with
      | row T own els => exact (Zl h7).elim
      | drow _ _ => exact (Zl h7).elim
      | hrow _ _ _ _ _ => exact (Zl h7).elim
      | grow _ _ => exact (Zl h7).elim
      | box T cs =>
        obtain ⟨⟨ys, K'⟩, l2, b2, l2', h9, h10, h11⟩ := Zi h7
        cases Zk h10
        cases h11
        obtain ⟨g, c, TT, e1, e2, e3, e4, e5, e6⟩ := hM.blocks id _ h6
        have hv : v = .pointer (some ⟨g, 0, none⟩) := by
          cases hx with
          | tree hx => cases hx
          | bp _ _ g' hg' => rw [e1] at hg'; cases hg'; rfl
        subst hv
        obtain ⟨t, n, gv⟩ := Zfb hM (R := fun ok' => Rq1 tab M.w ok') (f := ZbW) (fun x v y K log hx h => Zfa hM hx h) cs c.toList
          ⟨by simp [e3], fun j hj => by rw [Zbg]; exact e4 j hj⟩ h9
        have g0 : Given E M [id] [] [g] [] fun ok' => True :=
          ⟨fun g' hg' => ⟨id, by simp, by simp at hg'; rw [e5]; simp [hg']⟩, by simp, by simp, fun _ _ _ _ _ => trivial⟩
        refine ⟨g :: t, n, ((g0.append hM gv (fun ok' _ q => q)).mono (fun ok' q => ?_) : Given E M ([id] ++ K') ([] ++ []) ([g] ++ t) ([] ++ n) _)⟩
        rcases hmk with rfl | rfl
        · exact .nb q e2
        · exact .rf q e2
  | _ => exact hother h
theorem ZlH {E : Entry} {M : Mem} (hM : MemOk tab E M) {x y : V} {v : Value} {K log : List Nat} (hx : M.Rs tab E x v) (h : give x M.hp = some ((y, K), log)) :
    ∃ t n, Given E M K [] t n fun ok' => Rq2 tab M.w ok' y v t n := by
  cases x with
  | agg cs =>
    have h : RM.bind (ZbV ZbW cs) (fun r => RM.ret (V.agg r.1, r.2)) M.hp = some ((y, K), log) := h
    obtain ⟨⟨ys, K'⟩, l2, b2, l2', h9, h10, h11⟩ := Zi h
    cases Zk h10
    cases h11
    obtain ⟨vals, rfl, hl, hj⟩ := hx.agg_inv
    obtain ⟨t, n, g⟩ := Zfb hM (R := fun ok' => Rq1 tab M.w ok') (f := ZbW) (fun x v y K log hx h => Zfa hM hx h) cs vals ⟨hl, hj⟩ h9
    exact ⟨t, n, g.mono fun ok' q => .agg q⟩
  | _ => exact Zfc hM (.inl rfl) hx h
theorem ZmI {E : Entry} {M : Mem} (hM : MemOk tab E M) {x y : V} {v : Value} {K log : List Nat} (hx : M.Rs tab E x v) (h : Zof x M.hp = some ((y, K), log)) :
    ∃ t n, Given E M K [] t n fun ok' => Rq3 tab M.w ok' y v t n := by
  have hother : give x M.hp = some ((y, K), log) → ∃ t n, Given E M K [] t n fun ok' => Rq3 tab M.w ok' y v t n := fun h => by
    obtain ⟨t, n, g⟩ := ZlH hM hx h
    exact ⟨t, n, g.mono fun ok' q => .one q⟩
  cases x with
  | tup cs =>
    have h : RM.bind (ZbV give cs) (fun r => RM.ret (V.tup r.1, r.2)) M.hp = some ((y, K), log) := h
    obtain ⟨⟨ys, K'⟩, l2, b2, l2', h9, h10, h11⟩ := Zi h
    cases Zk h10
    cases h11
    obtain ⟨vals, rfl, hl, hj⟩ := hx.tup_inv
    obtain ⟨t, n, g⟩ := Zfb hM (R := fun ok' => Rq2 tab M.w ok') (f := give) (fun x v y K log hx h => ZlH hM hx h) cs vals ⟨hl, hj⟩ h9
    exact ⟨t, n, g.mono fun ok' q => .tup q⟩
  | _ => exact hother h
theorem Zin {E : Entry} {M : Mem} (hM : MemOk tab E M) {x y : V} {v : Value} {S log : List Nat} (hx : M.Rs tab E x v) (h : ZdE x M.hp = some ((y, S), log)) :
    Given E M [] S [] [] fun ok' => Rp tab M.w ok' y v := by
  cases x with
  | bp id off =>
    obtain ⟨blk, l1, b1, l1', h6, h7, h8⟩ := Zi h
    cases h8
    obtain ⟨h6, -⟩ := ZaD h6
    cases blk with
    | row T own els => exact (Zl h7).elim
    | drow _ _ => exact (Zl h7).elim
    | hrow _ _ _ _ _ => exact (Zl h7).elim
    | grow _ _ => exact (Zl h7).elim
    | box T cs =>
      obtain ⟨⟨ys, S'⟩, l2, b2, l2', h9, h10, h11⟩ := Zi h7
      cases Zk h10
      cases h11
      obtain ⟨g, c, TT, e1, e2, e3, e4, e5, e6⟩ := hM.blocks id _ h6
      have hv : v = .pointer (some ⟨g, off, none⟩) := by
        cases hx with
        | tree hx => cases hx
        | bp _ _ g' hg' => rw [e1] at hg'; cases hg'; rfl
      subst hv
      have gv := Zgc hM (f := ZdR) (fun x v y S log hx h => ZhG hM hx h) cs c.toList ⟨by simp [e3], fun j hj => by rw [Zbg]; exact e4 j hj⟩ h9
      refine ⟨by simp, by simp, by simp, fun _ ok' h1 h2 h3 => ?_⟩
      obtain ⟨q1, q2⟩ := gv.is List.nodup_nil ok' h1 (by simp) fun k hk => h3 k (List.mem_cons_of_mem _ hk)
      have := Rp.ep (tab := tab) (w := M.w) (ok := ok') ys off g 0 (fun j => c.getD j undef) (h3 id (by simp) g (by rw [e5]; simp)) (fun j hj => ?_) fun j hj => by have := q2 j hj; rw [Zbg] at this; exact this
      · rw [Nat.zero_add] at this; exact this
      · have hj' : j < c.size := by rw [← Array.length_toList, q1]; exact hj
        rw [Nat.zero_add, cell_of_row M.w g j c TT (0, 0) e2]
        simp [hj']
  | ep cs off => cases Zk (h := M.hp) h; exact .none fun ok' h1 => hx.ep.keep h1 fun _ _ => rfl
  | _ => exact (Zl (h := M.hp) h).elim
theorem ZlI {E : Entry} {M : Mem} (hM : MemOk tab E M) {x y : V} {v : Value} {S log : List Nat} (hx : M.Rs tab E x v) (h : view x M.hp = some ((y, S), log)) :
    Given E M [] S [] [] fun ok' => Rp tab M.w ok' y v := by
  cases x with
  | agg cs =>
    have h : RM.bind (ZbV ZdR cs) (fun r => RM.ret (V.agg r.1, r.2)) M.hp = some ((y, S), log) := h
    obtain ⟨⟨ys, S'⟩, l2, b2, l2', h9, h10, h11⟩ := Zi h
    cases Zk h10
    cases h11
    obtain ⟨vals, rfl, hl, hj⟩ := hx.agg_inv
    exact (Zgc hM (f := ZdR) (fun x v y S log hx h => ZhG hM hx h) cs vals ⟨hl, hj⟩ h9).mono fun ok' q => .agg _ _ q.1 q.2
  | fn f caps =>
    have h : RM.bind (ZbV ZdE caps) (fun r => RM.ret (V.fn f r.1, r.2)) M.hp = some ((y, S), log) := h
    obtain ⟨⟨ys, S'⟩, l2, b2, l2', h9, h10, h11⟩ := Zi h
    cases Zk h10
    cases h11
    obtain ⟨vals, rfl, hl, hj⟩ := hx.fn_inv
    exact (Zgc hM (f := ZdE) (fun x v y S log hx h => Zin hM hx h) caps vals ⟨hl, hj⟩ h9).mono fun ok' q => .fn _ _ _ q.1 q.2
  | _ => exact ZhG hM hx h
end
end Go.Eng
namespace Go.Eng
section
variable {P : Program} {tab : Tab}
def ZaQ : List V → List Value → List (V × Value)
  | .rr T o l :: xs, v :: vs => (.rr T o l, v) :: ZaQ xs vs
  | .dr T l :: xs, v :: vs => (.dr T l, v) :: ZaQ xs vs
  | _ :: xs, _ :: vs => ZaQ xs vs
  | _, _ => []
def Zb3 : V → Value → List (V × Value)
  | .rf T cs, v => [(.rf T cs, v)]
  | .ro T _ cs, .pointer (some a) => [(.rf T cs, .pointer (some ⟨a.block, 0, none⟩))]
  | .rr T o l, v => [(.rr T o l, v)]
  | .dr T l, v => [(.dr T l, v)]
  | .agg cs, .agg vs => ZaQ cs vs.toList
  | _, _ => []
def Zbo : List V → List Value → List (V × Value)
  | x :: xs, v :: vs => Zb3 x v ++ Zbo xs vs
  | _, _ => []
def outOk0 : V → V → Prop
  | .rf _ _, .rf _ _ => True
  | .rr T _ l, .rr T' _ l' => T' = T ∧ l'.length = l.length
  | .dr T l, .dr T' l' => T' = T ∧ l'.length = l.length
  | _, _ => False
def outOk (p y : V) : Prop := match y with
  | .dead => True
  | y => outOk0 p y
inductive OutL (R : V → Value → List Nat → List Nat → Prop) : List (V × Value) → List V → List Nat → List Nat → Prop where
  | nil : OutL R [] [] [] []
  | cons {p : V × Value} {y : V} {t n : List Nat} {ps : List (V × Value)} {ys : List V} {ts ns : List Nat} : outOk p.1 y → R y p.2 t n → OutL R ps ys ts ns → OutL R (p :: ps) (y :: ys) (t ++ ts) (n ++ ns)
theorem OutL.mono {R R' : V → Value → List Nat → List Nat → Prop} {ps : List (V × Value)} {ys : List V} {t n : List Nat} (h : ∀ y ∈ ys, ∀ v t n, R y v t n → R' y v t n) (hr : OutL R ps ys t n) : OutL R' ps ys t n := by
  induction hr with
  | nil => exact .nil
  | cons h1 h2 _ ih => exact .cons h1 (h _ (by simp) _ _ _ h2) (ih fun y hy => h y (by simp [hy]))
def Zky (tab : Tab) (w : World) (ok : Nat → Prop) (args : List V) (vals : List Value) (t n : List Nat) (r : V × List V) (val : Value) (w' : World) : Prop :=
  ∃ rt rn ot on,
    Rq3 tab w' (fun g => (ok g ∨ g ∈ t ++ n ∨ w.heap.size ≤ g) ∧ g < w'.heap.size ∧ g ∉ ot ++ rt) r.1 val rt rn ∧
    OutL (Rq2 tab w' (fun g => (ok g ∨ g ∈ t ++ n ∨ w.heap.size ≤ g) ∧ g < w'.heap.size ∧ g ∉ ot ++ rt)) (Zbo args vals) r.2 ot on ∧
    ((ot ++ rt) ++ (on ++ rn)).Nodup ∧ (∀ g ∈ ot ++ rt, g ∈ t ∨ w.heap.size ≤ g) ∧ (∀ g ∈ on ++ rn, g ∈ t ++ n ∨ w.heap.size ≤ g) ∧ (∀ g ∈ (ot ++ rt) ++ (on ++ rn), g < w'.heap.size) ∧
    KeptBut t w w'
def SumOk (P : Program) (tab : Tab) (f : FuncId) (args : List V) (r : V × List V) : Prop :=
  ∀ (w : World) (ok : Nat → Prop) (vals : List Value) (t n : List Nat), RqL (Rq2 tab w ok) args vals t n → (t ++ n).Nodup → (∀ g, ok g → g < w.heap.size ∧ g ∉ t) → (∀ g ∈ t ++ n, g < w.heap.size) →
    Calls P f vals.toArray w fun e w' => ∃ val, e = .returned val ∧ Zky tab w ok args vals t n r val w'
def ZfU (P : Program) (f : FuncId) : Prop := ∃ fn, P.funcs[f]? = some fn ∧ (fn.name == "runtime.NumGoroutine") = false ∧ fn.body.isNone = false
def Zbh (P : Program) (tab : Tab) (sums : Sums) : Prop := ∀ f args r, sums f args = some (true, r) → ZfU P f ∧ SumOk P tab f args r
def Zgu (tab : Tab) (M : Mem) (p : V × Value) (id : Nat) : Prop :=
  match p.1 with
  | .rf _ _ => ∃ g, M.ρ id = some (.box g) ∧ p.2 = .pointer (some ⟨g, 0, none⟩)
  | .rr T _ l => ∃ ty, tab T = some ty ∧ M.ρ id = some (.row T ty.kinds.length l.length p.2)
  | .dr T l => ∃ ty, tab T = some ty ∧ M.ρ id = some (.row T ty.kinds.length l.length p.2)
  | _ => False
inductive LentL (tab : Tab) (M : Mem) : List (V × Value) → List Nat → Prop where
  | nil : LentL tab M [] []
  | cons {p : V × Value} {id : Nat} {ps : List (V × Value)} {ids : List Nat} : Zgu tab M p id → LentL tab M ps ids → LentL tab M (p :: ps) (id :: ids)
theorem LentL.append {M : Mem} {ps qs : List (V × Value)} {is js : List Nat} (h : LentL tab M ps is) (k : LentL tab M qs js) : LentL tab M (ps ++ qs) (is ++ js) := by
  induction h with
  | nil => exact k
  | cons h1 _ ih => exact .cons h1 ih
def plain : V → Bool
  | .rr .. => false
  | .dr .. => false
  | .rf .. => false
  | .ro .. => false
  | .nb .. => false
  | .tup _ => false
  | .agg _ => false
  | _ => true
theorem Zjo {x y : V} {S log : List Nat} {h : ZaC} (e : ZdR x h = some ((y, S), log)) : plain y = true := by
  cases x with
  | sl id T off len =>
    obtain ⟨blk, l1, b1, l1', h6, h7, h8⟩ := Zi e
    cases h8
    cases blk with
    | box T cs => exact (Zl h7).elim
    | drow T' els => cases Zk h7; rfl
    | hrow _ _ _ _ _ => exact (Zl h7).elim
    | grow _ _ => exact (Zl h7).elim
    | row T' own' els => cases Zk h7; rfl
  | inl T l => cases Zk (h := h) e; rfl
  | nil T => cases Zk (h := h) e; rfl
  | int k n => cases Zk (h := h) e; rfl
  | bool b => cases Zk (h := h) e; rfl
  | str l => cases Zk (h := h) e; rfl
  | ep cs off => cases Zk (h := h) e; rfl
  | _ => exact (Zl (h := h) e).elim
theorem Zjp {h : ZaC} : ∀ {xs ys : List V} {S log : List Nat}, ZbV ZdR xs h = some ((ys, S), log) → ∀ y ∈ ys, plain y = true
  | [], ys, S, log, e => by cases Zk (h := h) e; simp
  | x :: xs, ys, S, log, e => by
    obtain ⟨⟨y, k⟩, l1, b1, l1', h1, h2, h3⟩ := Zi e
    obtain ⟨⟨ys', k'⟩, l2, b2, l2', h4, h5, h6⟩ := Zi h2
    cases Zk h5
    cases h3
    cases h6
    intro z hz
    rcases List.mem_cons.1 hz with rfl | hz
    · exact Zjo h1
    · exact Zjp h4 z hz
theorem Zio : ∀ {ys : List V} (vs : List Value), (∀ y ∈ ys, plain y = true) → ZaQ ys vs = []
  | [], _, _ => by simp [ZaQ]
  | y :: ys, [], _ => by cases y <;> simp [ZaQ]
  | y :: ys, v :: vs, h => by
    have h0 := h y (by simp)
    have := Zio vs fun z hz => h z (List.mem_cons_of_mem _ hz)
    cases y <;> first | (simp [plain] at h0; done) | (simpa [ZaQ] using this)
theorem Zjq {y : V} (v : Value) (h : plain y = true) : Zb3 y v = [] := by
  cases y <;> first | (simp [plain] at h; done) | rfl
def Zgd : V → Bool
  | .rr .. => true
  | .dr .. => true
  | _ => false
theorem Zkz {E : Entry} {M : Mem} (hM : MemOk tab E M) {x y : V} {v : Value} {K log : List Nat} (hx : M.Rs tab E x v) (h : ZbW x M.hp = some ((y, K), log)) :
    (plain y = true ∧ Zc2 [x] = []) ∨ ∃ id, Zgd y = true ∧ Zc2 [x] = [id] ∧ id ∈ K ∧ Zgu tab M (y, v) id := by
  cases x with
  | sl id T off len =>
    obtain ⟨blk, l1, b1, l1', h6, h7, h8⟩ := Zi h
    cases h8
    obtain ⟨h6, -⟩ := ZaD h6
    cases blk with
    | box T cs => exact (Zl h7).elim
    | drow T' els =>
      by_cases hfull : off = 0 ∧ len = none
      · obtain ⟨rfl, rfl⟩ := hfull
        cases Zk h7
        obtain ⟨rfl, ty', a, a', cap, m, q1, q2, q3, q4, q5, q6, q7, rfl, q8, q9⟩ := hM.sl' hx h6 rfl
        obtain rfl := q7 rfl
        simp only [Option.getD_none, Nat.sub_zero] at q4
        subst q4
        exact .inr ⟨id, rfl, rfl, by simp, ty', q1, q2⟩
      · have h7' : (RM.fail : RM (V × List Nat)) M.hp = some ((y, K), l1') := by
          rw [← h7]
          dsimp only
          split
          · exact absurd ⟨rfl, rfl⟩ hfull
          · rfl
        exact (Zl h7').elim
    | hrow _ _ _ _ _ => exact (Zl h7).elim
    | grow _ _ => exact (Zl h7).elim
    | row T' own' els =>
      by_cases hfull : off = 0 ∧ len = none
      · obtain ⟨rfl, rfl⟩ := hfull
        cases Zk h7
        obtain rfl := hM.sl_ty hx h6
        obtain ⟨ty', a, a', cap, m, q1, q2, q3, q4, q5, q6, q7, rfl, q8, q9⟩ := hM.sl hx h6
        obtain rfl := q7 rfl
        simp only [Option.getD_none, Nat.sub_zero] at q4
        subst q4
        exact .inr ⟨id, rfl, rfl, by simp, ty', q1, q2⟩
      · have h7' : RM.ret (V.inl T (cut els off len), [id]) M.hp = some ((y, K), l1') := by
          rw [← h7]
          dsimp only
          split
          · exact absurd ⟨rfl, rfl⟩ hfull
          · rfl
        cases Zk h7'
        refine .inl ⟨rfl, ?_⟩
        simp only [Zc2, List.append_nil]
        split
        · exact absurd ⟨rfl, rfl⟩ hfull
        · rfl
  | inl T l => cases Zk (h := M.hp) h; exact .inl ⟨rfl, rfl⟩
  | nil T => cases Zk (h := M.hp) h; exact .inl ⟨rfl, rfl⟩
  | int k n => cases Zk (h := M.hp) h; exact .inl ⟨rfl, rfl⟩
  | bool b => cases Zk (h := M.hp) h; exact .inl ⟨rfl, rfl⟩
  | str l => cases Zk (h := M.hp) h; exact .inl ⟨rfl, rfl⟩
  | ep cs off => cases Zk (h := M.hp) h; exact .inl ⟨rfl, rfl⟩
  | _ => exact (Zl (h := M.hp) h).elim
theorem ZoU (x : V) (xs : List V) : Zc2 (x :: xs) = Zc2 [x] ++ Zc2 xs := by
  cases x <;> simp [Zc2]
theorem ZkA {E : Entry} {M : Mem} (hM : MemOk tab E M) : ∀ (xs : List V) (vs : List Value) {ys : List V} {K log : List Nat}, RsL tab M.w (okS E M) M.ρ xs vs → ZbV ZbW xs M.hp = some ((ys, K), log) →
    LentL tab M (ZaQ ys vs) (Zc2 xs) ∧ ∀ id ∈ Zc2 xs, id ∈ K
  | [], [], ys, K, log, _, h => by
    cases Zk (h := M.hp) h
    exact ⟨.nil, by simp [Zc2]⟩
  | [], _ :: _, _, _, _, hr, _ => by have := hr.1; simp at this
  | _ :: _, [], _, _, _, hr, _ => by have := hr.1; simp at this
  | x :: xs, v :: vs, ys, K, log, hr, h => by
    obtain ⟨⟨y, k⟩, l1, b1, l1', h1, h2, h3⟩ := Zi h
    obtain ⟨⟨ys', k'⟩, l2, b2, l2', h4, h5, h6⟩ := Zi h2
    cases Zk h5
    cases h3
    cases h6
    obtain ⟨ih1, ih2⟩ := ZkA hM xs vs hr.head.2 h4
    rw [ZoU]
    rcases Zkz hM hr.head.1 h1 with ⟨hp, he⟩ | ⟨id, hy, he, hid, hl⟩
    · rw [he]
      have : ZaQ (y :: ys') (v :: vs) = ZaQ ys' vs := by
        cases y <;> first | (simp [plain] at hp; done) | rfl
      rw [this]
      exact ⟨ih1, fun id hid => List.mem_append_right _ (ih2 id hid)⟩
    · rw [he]
      have hcons : ZaQ (y :: ys') (v :: vs) = (y, v) :: ZaQ ys' vs := by
        cases y <;> first | (simp [Zgd] at hy; done) | rfl
      refine ⟨by rw [hcons]; exact .cons hl ih1, fun i hi => ?_⟩
      rcases List.mem_append.1 hi with hi | hi
      · simp at hi; subst hi; exact List.mem_append_left _ hid
      · exact List.mem_append_right _ (ih2 i hi)
theorem Zgv {E : Entry} {M : Mem} (hM : MemOk tab E M) {id off : Nat} {y : V} {v : Value} {K log : List Nat} (hx : M.Rs tab E (.bp id off) v) (h : Zc4 .rf (.bp id off) M.hp = some ((y, K), log)) :
    id ∈ K ∧ ∃ T cs, y = .rf T cs ∧ Zgu tab M (y, v) id := by
  cases off with
  | succ off => exact (Zl (h := M.hp) h).elim
  | zero =>
    obtain ⟨blk, l1, b1, l1', h6, h7, h8⟩ := Zi h
    cases h8
    obtain ⟨h6, -⟩ := ZaD h6
    cases blk with
    | row T own els => exact (Zl h7).elim
    | drow _ _ => exact (Zl h7).elim
    | hrow _ _ _ _ _ => exact (Zl h7).elim
    | grow _ _ => exact (Zl h7).elim
    | box T cs =>
      obtain ⟨⟨ys, K'⟩, l2, b2, l2', h9, h10, h11⟩ := Zi h7
      cases Zk h10
      cases h11
      obtain ⟨g, c, TT, e1, e2, e3, e4, e5, e6⟩ := hM.blocks id _ h6
      cases hx with
      | tree hx => cases hx
      | bp _ _ g' hg' => exact ⟨by simp, T, ys, rfl, g', hg', rfl⟩
theorem ZmJ {E : Entry} {M : Mem} (hM : MemOk tab E M) {id off : Nat} {y : V} {v : Value} {K log : List Nat} (hx : M.Rs tab E (.bp id off) v) (h : Zhg id off M.hp = some ((y, K), log)) :
    (∃ t n, Given E M K [] t n fun ok' => Rq2 tab M.w ok' y v t n) ∧ LentL tab M (Zb3 y v) [id] ∧ id ∈ K := by
  cases off with
  | zero =>
    obtain ⟨hid, T, cs, rfl, hl⟩ := Zgv hM hx h
    exact ⟨Zfc hM (.inr rfl) hx h, .cons hl .nil, hid⟩
  | succ off =>
    have h : RM.bind (Zc4 .rf (.bp id 0)) (fun a => RM.ret (inner (off + 1) a.1, a.2)) M.hp = some ((y, K), log) := h
    obtain ⟨⟨y', k⟩, l1, b1, l1', h5, h6, h7⟩ := Zi h
    cases Zk h6
    cases h7
    obtain ⟨g, hr, rfl⟩ : ∃ g, M.ρ id = some (.box g) ∧ v = .pointer (some ⟨g, off + 1, none⟩) := by
      cases hx with
      | tree hx => cases hx
      | bp _ _ g' hg' => exact ⟨g', hg', rfl⟩
    have hx0 : M.Rs tab E (.bp id 0) (.pointer (some ⟨g, 0, none⟩)) := .bp id 0 g hr
    obtain ⟨hid, T, cs, rfl, hl⟩ := Zgv hM hx0 h5
    obtain ⟨t, n, gv⟩ := Zfc hM (.inr rfl) hx0 h5
    refine ⟨⟨t, n, gv.mono fun ok' q => ?_⟩, .cons hl .nil, hid⟩
    cases q with
    | one q => cases q with | tree q => cases q
    | rf q hg => exact .ro q hg
theorem Given.tree {E : Entry} {M : Mem} {S : List Nat} {y : V} {v : Value} (g : Given E M [] S [] [] fun ok' => Rp tab M.w ok' y v) :
    ∃ t n, Given E M [] S t n fun ok' => Rq2 tab M.w ok' y v t n := ⟨[], [], g.mono fun _ q => .one (.tree q)⟩
theorem Zpz {E : Entry} {M : Mem} (hM : MemOk tab E M) {m q : Bool} {x y : V} {v : Value} {K S log : List Nat} (hx : M.Rs tab E x v) (h : argV m q x M.hp = some ((y, K, S), log)) :
    (∃ t n, Given E M K S t n fun ok' => Rq2 tab M.w ok' y v t n) ∧ LentL tab M (Zb3 y v) (lent m q x) ∧ ∀ id ∈ lent m q x, id ∈ K := by
  have hview : plain y = true → lent m q x = [] → K = [] → view x M.hp = some ((y, S), log) → (∃ t n, Given E M K S t n fun ok' => Rq2 tab M.w ok' y v t n) ∧ LentL tab M (Zb3 y v) (lent m q x) ∧ ∀ id ∈ lent m q x, id ∈ K := by
    intro h1 h2 h3 h4
    subst h3
    rw [h2, Zjq v h1]
    exact ⟨(ZlI hM hx h4).tree, .nil, by simp⟩
  have hone : (∀ cs, x ≠ .agg cs) → (∀ f cs, x ≠ .fn f cs) → lent m q x = [] → ZdR x = view x → RM.bind (view x) (fun a => RM.ret (a.1, ([] : List Nat), a.2)) M.hp = some ((y, K, S), log) →
      (∃ t n, Given E M K S t n fun ok' => Rq2 tab M.w ok' y v t n) ∧ LentL tab M (Zb3 y v) (lent m q x) ∧ ∀ id ∈ lent m q x, id ∈ K := by
    intro _ _ h2 h3 h4
    obtain ⟨⟨y', k⟩, l1, b1, l1', h5, h6, h7⟩ := Zi h4
    cases Zk h6
    cases h7
    have h5' := h5
    rw [← h3] at h5'
    exact hview (Zjo h5') h2 rfl (by simpa using h5)
  cases x with
  | bp id off =>
    cases q with
    | true =>
      have h : RM.bind (ZdE (.bp id off)) (fun a => RM.ret (a.1, ([] : List Nat), a.2)) M.hp = some ((y, K, S), log) := h
      obtain ⟨⟨y', k⟩, l1, b1, l1', h5, h6, h7⟩ := Zi h
      cases Zk h6
      cases h7
      have g := Zin hM hx h5
      have hp : plain y' = true := by
        obtain ⟨blk, l2, b2, l2', k6, k7, k8⟩ := Zi h5
        cases k8
        cases blk with
        | row T own els => exact (Zl k7).elim
        | drow _ _ => exact (Zl k7).elim
        | hrow _ _ _ _ _ => exact (Zl k7).elim
        | grow _ _ => exact (Zl k7).elim
        | box T cs =>
          obtain ⟨⟨ys, k'⟩, l3, b3, l3', k9, k10, k11⟩ := Zi k7
          cases Zk k10
          cases k11
          rfl
      rw [Zjq v hp]
      exact ⟨g.tree, .nil, by simp [lent]⟩
    | false =>
      have h : RM.bind (Zhg id off) (fun a => RM.ret (a.1, a.2, ([] : List Nat))) M.hp = some ((y, K, S), log) := h
      obtain ⟨⟨y', k⟩, l1, b1, l1', h5, h6, h7⟩ := Zi h
      cases Zk h6
      cases h7
      obtain ⟨a1, a2, a3⟩ := ZmJ hM hx h5
      exact ⟨a1, a2, by simpa [lent] using a3⟩
  | sl id T off len =>
    by_cases hfull : m = true ∧ off = 0 ∧ len = none
    · obtain ⟨rfl, rfl, rfl⟩ := hfull
      have h : RM.bind (ZbW (.sl id T 0 none)) (fun a => RM.ret (a.1, a.2, ([] : List Nat))) M.hp = some ((y, K, S), log) := h
      obtain ⟨⟨y', k⟩, l1, b1, l1', h5, h6, h7⟩ := Zi h
      cases Zk h6
      cases h7
      obtain ⟨t, n, g⟩ := Zfa hM hx h5
      refine ⟨⟨t, n, g.mono fun _ q => .one q⟩, ?_⟩
      rcases Zkz hM hx h5 with ⟨hp, he⟩ | ⟨i, hy, he, hid, hl⟩
      · simp [Zc2] at he
      · simp only [lent]
        rw [he]
        have hone1 : Zb3 y' v = [(y', v)] := by cases y' <;> first | (simp [Zgd] at hy; done) | rfl
        exact ⟨by rw [hone1]; exact .cons hl .nil, by simpa using hid⟩
    · have hl : lent m q (.sl id T off len) = [] := by
        cases m with
        | false => rfl
        | true =>
          simp only [lent, Zc2, List.append_nil]
          split
          · exact absurd ⟨rfl, rfl, rfl⟩ hfull
          · rfl
      refine hone (by simp) (by simp) hl rfl ?_
      rw [← h]
      unfold argV
      simp only []
      split
      · exact absurd ⟨rfl, rfl, rfl⟩ hfull
      · rfl
  | agg cs =>
    cases m with
    | true =>
      have h : RM.bind (ZbV ZbW cs) (fun r => RM.ret (V.agg r.1, r.2, ([] : List Nat))) M.hp = some ((y, K, S), log) := h
      obtain ⟨⟨ys, k⟩, l1, b1, l1', h5, h6, h7⟩ := Zi h
      cases Zk h6
      cases h7
      obtain ⟨vals, rfl, hl, hj⟩ := hx.agg_inv
      obtain ⟨t, n, g⟩ := Zfb hM (R := fun ok' => Rq1 tab M.w ok') (f := ZbW) (fun x v y K log hx h => Zfa hM hx h) cs vals ⟨hl, hj⟩ h5
      exact ⟨⟨t, n, g.mono fun ok' q => .agg q⟩, by simpa [Zb3, lent] using ZkA hM cs vals ⟨hl, hj⟩ h5⟩
    | false =>
      have h : RM.bind (view (.agg cs)) (fun a => RM.ret (a.1, ([] : List Nat), a.2)) M.hp = some ((y, K, S), log) := h
      obtain ⟨⟨y', k⟩, l1, b1, l1', h5, h6, h7⟩ := Zi h
      cases Zk h6
      cases h7
      have h5' : RM.bind (ZbV ZdR cs) (fun r => RM.ret (V.agg r.1, r.2)) M.hp = _ := h5
      obtain ⟨⟨ys, k'⟩, l2, b2, l2', h8, h9, h10⟩ := Zi h5'
      cases Zk h9
      cases h10
      obtain ⟨vals, rfl, hl, hj⟩ := hx.agg_inv
      refine ⟨(ZlI hM hx h5).tree, ?_, by simp [lent]⟩
      simp only [Zb3, lent]
      rw [Zio _ (Zjp h8)]
      exact .nil
  | fn f caps =>
    have h : RM.bind (view (.fn f caps)) (fun a => RM.ret (a.1, ([] : List Nat), a.2)) M.hp = some ((y, K, S), log) := h
    obtain ⟨⟨y', k⟩, l1, b1, l1', h5, h6, h7⟩ := Zi h
    cases Zk h6
    cases h7
    have h5' : RM.bind (ZbV ZdE caps) (fun r => RM.ret (V.fn f r.1, r.2)) M.hp = _ := h5
    obtain ⟨⟨ys, k'⟩, l2, b2, l2', h8, h9, h10⟩ := Zi h5'
    cases Zk h9
    cases h10
    exact hview rfl rfl rfl (by simpa using h5)
  | _ => exact hone (by simp) (by simp) rfl rfl h
theorem ZkB {E : Entry} {M : Mem} (hM : MemOk tab E M) {m q : Bool} : ∀ (xs : List V) (vs : List Value) {ys : List V} {K S log : List Nat}, RsL tab M.w (okS E M) M.ρ xs vs →
    Zkh m q xs M.hp = some ((ys, K, S), log) →
    (∃ t n, Given E M K S t n fun ok' => RqL (Rq2 tab M.w ok') ys vs t n) ∧ LentL tab M (Zbo ys vs) (xs.flatMap (lent m q)) ∧ ∀ id ∈ xs.flatMap (lent m q), id ∈ K
  | [], [], ys, K, S, log, _, h => by
    cases Zk (h := M.hp) h
    exact ⟨⟨[], [], .none fun _ _ => .nil⟩, .nil, by simp⟩
  | [], _ :: _, _, _, _, _, hr, _ => by have := hr.1; simp at this
  | _ :: _, [], _, _, _, _, hr, _ => by have := hr.1; simp at this
  | x :: xs, v :: vs, ys, K, S, log, hr, h => by
    obtain ⟨⟨y, k, s⟩, l1, b1, l1', h1, h2, h3⟩ := Zi h
    obtain ⟨⟨ys', k', s'⟩, l2, b2, l2', h4, h5, h6⟩ := Zi h2
    cases Zk h5
    cases h3
    cases h6
    obtain ⟨⟨t1, n1, g1⟩, a1, a2⟩ := Zpz hM hr.head.1 h1
    obtain ⟨⟨t2, n2, g2⟩, c1, c2⟩ := ZkB hM xs vs hr.head.2 h4
    refine ⟨⟨_, _, g1.append hM g2 fun ok' q1 q2 => .cons q1 q2⟩, ?_, fun id hid => ?_⟩
    · simp only [Zbo, List.flatMap_cons]; exact a1.append c1
    · simp only [List.flatMap_cons] at hid
      rcases List.mem_append.1 hid with hid | hid
      · exact List.mem_append_left _ (a2 id hid)
      · exact List.mem_append_right _ (c2 id hid)
end
end Go.Eng
namespace Go.Eng
section
variable {P : Program} {tab : Tab}
abbrev Us := List (Nat × Bd)
def ZZ : Us → Nat → Option Bd
  | [], _ => none
  | u :: r, i => if u.1 = i then some u.2 else ZZ r i
def Us.blks (us : Us) : List (Nat × Option Blk) := us.map fun u => (u.1, some u.2.blk)
theorem Zdh {us : Us} {i : Nat} {b : Bd} (h : ZZ us i = some b) : (i, b) ∈ us := by
  induction us with
  | nil => simp [ZZ] at h
  | cons u us ih =>
    obtain ⟨k, c⟩ := u
    simp only [ZZ] at h
    split at h
    · cases h; subst_vars; simp
    · exact List.mem_cons_of_mem _ (ih h)
theorem ZmK {us : Us} (hn : (us.map (·.1)).Nodup) {u : Nat × Bd} (h : u ∈ us) : ZZ us u.1 = some u.2 := by
  induction us with
  | nil => simp at h
  | cons x us ih =>
    simp only [List.map_cons, List.nodup_cons] at hn
    simp only [ZZ]
    rcases List.mem_cons.1 h with rfl | h
    · simp
    · rw [if_neg, ih hn.2 h]
      intro e
      exact hn.1 (e ▸ List.mem_map_of_mem h)
theorem lookU_none {us : Us} {i : Nat} : ZZ us i = none ↔ i ∉ us.map (·.1) := by
  induction us with
  | nil => simp [ZZ]
  | cons x us ih =>
    simp only [ZZ, List.map_cons, List.mem_cons, not_or]
    split
    · subst_vars; simp
    · rw [ih]; constructor
      · exact fun h => ⟨fun e => by simp_all, h⟩
      · exact fun h => h.2
theorem Zjr (hp : ZaC) (a b : List (Nat × Option Blk)) : ZW hp (a ++ b) = ZW (ZW hp a) b := by
  induction a generalizing hp with
  | nil => rfl
  | cons x a ih => exact ih _
theorem ZnN (hp : ZaC) (K : List Nat) : ZW hp (ended K) = fun i => if i ∈ K then some none else hp i := by
  induction K generalizing hp with
  | nil => simp [ended, ZW]
  | cons k K ih =>
    simp only [ended, List.map_cons, ZW] at ih ⊢
    rw [ih]
    funext i
    by_cases h1 : i ∈ K <;> by_cases h2 : i = k <;> simp [h1, h2]
theorem updH_us (hp : ZaC) (us : Us) (hn : (us.map (·.1)).Nodup) : ZW hp us.blks = fun i => match ZZ us i with | some b => some (some b.blk) | none => hp i := by
  induction us generalizing hp with
  | nil => rfl
  | cons u us ih =>
    simp only [List.map_cons, List.nodup_cons] at hn
    simp only [Us.blks, List.map_cons, ZW] at ih ⊢
    rw [ih _ hn.2]
    funext i
    simp only [ZZ]
    by_cases e : u.1 = i
    · subst e
      simp [lookU_none.2 hn.1]
    · rw [if_neg e]
      have e' : ¬ i = u.1 := fun h => e h.symm
      simp only [if_neg e']
def numB (nid : Nat) : List Bd → Us
  | [] => []
  | b :: r => (nid, b) :: numB (nid + 1) r
theorem ZpA (nid : Nat) (Bs : List Bd) : ZcL nid (Bs.map (·.blk)) = Us.blks (numB nid Bs) := by
  induction Bs generalizing nid with
  | nil => rfl
  | cons b Bs ih => simp [ZcL, numB, Us.blks, ih]
theorem numB_t (nid : Nat) (Bs : List Bd) : (numB nid Bs).flatMap (·.2.t) = Bs.flatMap (·.t) := by
  induction Bs generalizing nid with
  | nil => rfl
  | cons b Bs ih => simp [numB, ih]
theorem numB_n (nid : Nat) (Bs : List Bd) : (numB nid Bs).flatMap (·.2.n) = Bs.flatMap (·.n) := by
  induction Bs generalizing nid with
  | nil => rfl
  | cons b Bs ih => simp [numB, ih]
theorem Zd3 {nid : Nat} {Bs : List Bd} : ∀ u ∈ numB nid Bs, nid ≤ u.1 ∧ u.1 < nid + Bs.length ∧ u.2 ∈ Bs := by
  induction Bs generalizing nid with
  | nil => simp [numB]
  | cons b Bs ih =>
    intro u hu
    simp only [numB, List.mem_cons] at hu
    rcases hu with rfl | hu
    · simp
    · obtain ⟨h1, h2, h3⟩ := ih u hu
      simp; exact ⟨by omega, by omega, .inr h3⟩
theorem ZhH (nid : Nat) (Bs : List Bd) : ((numB nid Bs).map (·.1)).Nodup := by
  induction Bs generalizing nid with
  | nil => simp [numB]
  | cons b Bs ih =>
    simp only [numB, List.map_cons, List.nodup_cons]
    refine ⟨fun h => ?_, ih _⟩
    obtain ⟨u, hu, e⟩ := List.mem_map.1 h
    have := (Zd3 u hu).1
    omega
theorem numB_get {nid : Nat} {Bs : List Bd} {k : Nat} {b : Bd} (h : Bs[k]? = some b) : (nid + k, b) ∈ numB nid Bs := by
  induction Bs generalizing nid k with
  | nil => simp at h
  | cons c Bs ih =>
    cases k with
    | zero => simp at h; subst h; simp [numB]
    | succ k =>
      have := ih (nid := nid + 1) (k := k) (by simpa using h)
      simp only [numB, List.mem_cons]
      exact .inr (by rw [show nid + (k + 1) = nid + 1 + k from by omega]; exact this)
theorem Adopted.numB {w : World} {ok : Nat → Prop} {nid : Nat} {bs : List Blk} {t n : List Nat} {S : (Nat → Option RB) → Prop} (h : Adopted tab w ok nid bs t n S) :
    ∃ Bs : List Bd, Bs.length = bs.length ∧ ZcL nid bs = Us.blks (numB nid Bs) ∧ t = (numB nid Bs).flatMap (·.2.t) ∧ n = (Eng.numB nid Bs).flatMap (·.2.n) ∧
      ∀ ρ : Nat → Option RB, (∀ u ∈ Eng.numB nid Bs, ρ u.1 = some u.2.rb) → S ρ ∧ ∀ u ∈ Eng.numB nid Bs, BlkIs tab w ok ρ u.2.blk (some u.2.rb) u.2.t u.2.n := by
  obtain ⟨Bs, rfl, rfl, rfl, h⟩ := h
  refine ⟨Bs, by simp, ZpA _ _, (numB_t _ _).symm, (numB_n _ _).symm, fun ρ hρ => ?_⟩
  obtain ⟨h1, h2⟩ := h ρ fun k b hb => hρ _ (numB_get hb)
  exact ⟨h1, fun u hu => h2 _ (Zd3 u hu).2.2⟩
theorem ZhI {M : Mem} {T : TypeId} {cs : List V} {v : Value} {id : Nat} (h : Zgu tab M (.rf T cs, v) id) : ∃ g, M.ρ id = some (.box g) ∧ v = .pointer (some ⟨g, 0, none⟩) := h
theorem Zma {w : World} {ok : Nat → Prop} {M : Mem} {ps : List (V × Value)} {ids : List Nat} (hl : LentL tab M ps ids) : ∀ {outs : List V} {to no : List Nat} {nid : Nat} {q : List (Nat × Option Blk) × Nat},
    OutL (Rq2 tab w ok) ps outs to no → Zb5 nid ids outs = some q →
    ∃ us : Us, q.1 = us.blks ∧ to = us.flatMap (·.2.t) ∧ no = us.flatMap (·.2.n) ∧ nid ≤ q.2 ∧
      (∀ u ∈ us, (u.1 ∈ ids ∧ M.ρ u.1 = some u.2.rb) ∨ (nid ≤ u.1 ∧ u.1 < q.2)) ∧
      (ids.Nodup → (∀ i ∈ ids, i < nid) → (us.map (·.1)).Nodup) ∧
      ∀ ρ : Nat → Option RB, (∀ u ∈ us, ρ u.1 = some u.2.rb) → ∀ u ∈ us, BlkIs tab w ok ρ u.2.blk (some u.2.rb) u.2.t u.2.n := by
  induction hl with
  | nil =>
    intro outs to no nid q ho h
    cases ho
    simp only [Zb5, Option.some.injEq] at h
    subst h
    exact ⟨[], rfl, rfl, rfl, Nat.le_refl _, by simp, by simp, by simp⟩
  | @cons p id ps ids hp _ ih =>
    intro outs to no nid q ho h
    cases ho with
    | @cons _ y t n _ ys ts ns h1 h2 h3 =>
    obtain ⟨px, pv⟩ := p
    simp only [] at h2
    cases y with
    | rf T cs =>
      cases px <;> try (exact h1.elim)
      obtain ⟨g, hg, rfl⟩ := ZhI hp
      simp only [Zb5, Option.map_eq_some_iff] at h
      obtain ⟨q', hq, rfl⟩ := h
      obtain ⟨us, e1, e2, e3, e4, e5, e6, e7⟩ := ih h3 hq
      cases h2 with
      | one h2 => cases h2 with | tree h2 => cases h2
      | @rf _ _ c TT _ t' n' hr hgb =>
      obtain ⟨Bs, b0, b1, b2, b3, b4⟩ := (Zey (R := Rq1 tab w ok) (f := ZaV) (fun x v t n nid h => ZcW h nid) hr nid).numB
      refine ⟨(id, ⟨.box T (Zaz ZaV nid cs).1, .box g, [g], []⟩) :: (numB nid Bs ++ us), ?_, ?_, ?_, by omega, fun u hu => ?_, fun hn hlt => ?_, fun ρ hρ u hu => ?_⟩
      · simp only [Us.blks, List.map_cons, List.map_append, List.cons_append] at b1 e1 ⊢
        rw [b1, e1]
      · simp [b2, e2]
      · simp [b3, e3]
      · rcases List.mem_cons.1 hu with rfl | hu
        · exact .inl ⟨by simp, hg⟩
        · rcases List.mem_append.1 hu with hu | hu
          · have := Zd3 u hu
            exact .inr ⟨this.1, by omega⟩
          · rcases e5 u hu with ⟨k1, k2⟩ | ⟨k1, k2⟩
            · exact .inl ⟨by simp [k1], k2⟩
            · exact .inr ⟨by omega, k2⟩
      · rw [List.nodup_cons] at hn
        simp only [List.map_cons, List.map_append]
        rw [List.nodup_cons, List.nodup_append]
        have hid : id < nid := hlt id (by simp)
        refine ⟨fun hm => ?_, ZhH _ _, e6 hn.2 (fun i hi => by have := hlt i (by simp [hi]); omega), fun a ha b hb e => ?_⟩
        · rcases List.mem_append.1 hm with hm | hm
          · obtain ⟨u, hu, e⟩ := List.mem_map.1 hm
            have := (Zd3 u hu).1; omega
          · obtain ⟨u, hu, e⟩ := List.mem_map.1 hm
            rcases e5 u hu with ⟨k1, -⟩ | ⟨k1, -⟩
            · exact hn.1 (e ▸ k1)
            · omega
        · subst e
          obtain ⟨u, hu, e⟩ := List.mem_map.1 ha
          obtain ⟨u', hu', e'⟩ := List.mem_map.1 hb
          have k := Zd3 u hu
          rcases e5 u' hu' with ⟨k1, -⟩ | ⟨k1, -⟩
          · have := hlt u'.1 (by simp [k1]); omega
          · omega
      · obtain ⟨⟨s1, s2⟩, hb⟩ := b4 ρ fun u hu => hρ u (by simp [hu])
        rcases List.mem_cons.1 hu with rfl | hu
        · exact ⟨g, c, TT, rfl, hgb, by simpa using s1, fun j hj => by have := s2 j hj; rw [Zbg] at this; exact this, rfl, rfl⟩
        · rcases List.mem_append.1 hu with hu | hu
          · exact hb u hu
          · exact e7 ρ (fun u hu => hρ u (by simp [hu])) u hu
    | rr T own l =>
      cases px <;> try (exact h1.elim)
      rename_i T0 own0 l0
      obtain ⟨hT, hlen⟩ := (h1 : T = T0 ∧ l.length = l0.length)
      subst hT
      obtain ⟨ty, hty, hrho⟩ := (hp : ∃ ty, tab T = some ty ∧ M.ρ id = some (.row T ty.kinds.length l0.length pv))
      simp only [Zb5, Option.map_eq_some_iff] at h
      obtain ⟨q', hq, rfl⟩ := h
      obtain ⟨us, e1, e2, e3, e4, e5, e6, e7⟩ := ih h3 hq
      cases h2 with
      | one h2 => cases h2 with
        | tree h2 => cases h2
        | row hrow =>
        rw [← hlen] at hrho
        refine ⟨(id, ⟨.row T own l, .row T ty.kinds.length l.length pv, Zp pv, n⟩) :: us, ?_, ?_, ?_, by omega, fun u hu => ?_, fun hn hlt => ?_, fun ρ hρ u hu => ?_⟩
        · simp only [Us.blks, List.map_cons] at e1 ⊢
          rw [e1]
        · simp [e2]
        · simp [e3]
        · rcases List.mem_cons.1 hu with rfl | hu
          · exact .inl ⟨by simp, hrho⟩
          · rcases e5 u hu with ⟨k1, k2⟩ | ⟨k1, k2⟩
            · exact .inl ⟨by simp [k1], k2⟩
            · exact .inr ⟨by omega, k2⟩
        · rw [List.nodup_cons] at hn
          simp only [List.map_cons]
          rw [List.nodup_cons]
          have hid : id < nid := hlt id (by simp)
          refine ⟨fun hm => ?_, e6 hn.2 (fun i hi => by have := hlt i (by simp [hi]); omega)⟩
          obtain ⟨u, hu, e⟩ := List.mem_map.1 hm
          rcases e5 u hu with ⟨k1, -⟩ | ⟨k1, -⟩
          · exact hn.1 (e ▸ k1)
          · omega
        · rcases List.mem_cons.1 hu with rfl | hu
          · exact ⟨ty, pv, hty, rfl, hrow, rfl⟩
          · exact e7 ρ (fun u hu => hρ u (by simp [hu])) u hu
    | dr T l =>
      cases px <;> try (exact h1.elim)
      rename_i T0 l0
      obtain ⟨hT, hlen⟩ := (h1 : T = T0 ∧ l.length = l0.length)
      subst hT
      obtain ⟨ty, hty, hrho⟩ := (hp : ∃ ty, tab T = some ty ∧ M.ρ id = some (.row T ty.kinds.length l0.length pv))
      simp only [Zb5, Option.map_eq_some_iff] at h
      obtain ⟨q', hq, rfl⟩ := h
      obtain ⟨us, e1, e2, e3, e4, e5, e6, e7⟩ := ih h3 hq
      cases h2 with
      | one h2 => cases h2 with
        | tree h2 => cases h2
        | @deep _ _ _ n0 hrow =>
        rw [← hlen] at hrho
        refine ⟨(id, ⟨.drow T l, .row T ty.kinds.length l.length pv, Zp pv ++ n0, []⟩) :: us, ?_, ?_, ?_, by omega, fun u hu => ?_, fun hn hlt => ?_, fun ρ hρ u hu => ?_⟩
        · simp only [Us.blks, List.map_cons] at e1 ⊢
          rw [e1]
        · simp [e2]
        · simp [e3]
        · rcases List.mem_cons.1 hu with rfl | hu
          · exact .inl ⟨by simp, hrho⟩
          · rcases e5 u hu with ⟨k1, k2⟩ | ⟨k1, k2⟩
            · exact .inl ⟨by simp [k1], k2⟩
            · exact .inr ⟨by omega, k2⟩
        · rw [List.nodup_cons] at hn
          simp only [List.map_cons]
          rw [List.nodup_cons]
          have hid : id < nid := hlt id (by simp)
          refine ⟨fun hm => ?_, e6 hn.2 (fun i hi => by have := hlt i (by simp [hi]); omega)⟩
          obtain ⟨u, hu, e⟩ := List.mem_map.1 hm
          rcases e5 u hu with ⟨k1, -⟩ | ⟨k1, -⟩
          · exact hn.1 (e ▸ k1)
          · omega
        · rcases List.mem_cons.1 hu with rfl | hu
          · exact ⟨ty, pv, n0, hty, rfl, hrow, rfl, rfl⟩
          · exact e7 ρ (fun u hu => hρ u (by simp [hu])) u hu
    | dead =>
      simp only [Zb5] at h
      obtain ⟨us, e1, e2, e3, e4, e5, e6, e7⟩ := ih h3 h
      cases h2 with | one h2 => cases h2 with | tree h2 =>
      refine ⟨us, e1, by simpa using e2, by simpa using e3, e4, fun u hu => ?_, fun hn hlt => e6 (List.nodup_cons.1 hn).2 fun i hi => hlt i (by simp [hi]), e7⟩
      rcases e5 u hu with ⟨k1, k2⟩ | k
      · exact .inl ⟨by simp [k1], k2⟩
      · exact .inr k
    | _ => simp [Zb5] at h
theorem ZkC {us : Us} (h : (us.flatMap (·.2.t) ++ us.flatMap (·.2.n)).Nodup) :
    (∀ u ∈ us, (u.2.t ++ u.2.n).Nodup) ∧ ∀ i j b c, ZZ us i = some b → ZZ us j = some c → i ≠ j → ∀ g ∈ b.t ++ b.n, g ∉ c.t ++ c.n := by
  induction us with
  | nil => simp [ZZ]
  | cons u us ih =>
    have hp : ((u.2.t ++ us.flatMap (·.2.t)) ++ (u.2.n ++ us.flatMap (·.2.n))).Perm ((u.2.t ++ u.2.n) ++ (us.flatMap (·.2.t) ++ us.flatMap (·.2.n))) := by
      rw [List.append_assoc, List.append_assoc]
      exact List.Perm.append_left _ (List.perm_append_comm_assoc _ _ _)
    simp only [List.flatMap_cons] at h
    rw [hp.nodup_iff, List.nodup_append] at h
    obtain ⟨h1, h2, h3⟩ := h
    obtain ⟨i1, i2⟩ := ih h2
    have hin : ∀ (b : Bd) i, ZZ us i = some b → ∀ g ∈ b.t ++ b.n, g ∈ us.flatMap (·.2.t) ++ us.flatMap (·.2.n) := by
      intro b i hb g hg
      have := Zdh hb
      rcases List.mem_append.1 hg with hg | hg
      · exact List.mem_append_left _ (List.mem_flatMap.2 ⟨_, this, hg⟩)
      · exact List.mem_append_right _ (List.mem_flatMap.2 ⟨_, this, hg⟩)
    refine ⟨fun x hx => ?_, fun i j b c hb hc hne g hg hg' => ?_⟩
    · rcases List.mem_cons.1 hx with rfl | hx
      · exact h1
      · exact i1 x hx
    · simp only [ZZ] at hb hc
      split at hb <;> split at hc
      · subst_vars; exact hne rfl
      · cases hb; exact h3 g hg g (hin c j hc g hg') rfl
      · cases hc; exact h3 g hg' g (hin b i hb g hg) rfl
      · exact i2 i j b c hb hc hne g hg hg'
theorem Rp.alone {w : World} {ok ok' : Nat → Prop} {x : V} {v : Value} (h : Rp tab w ok x v) (hx : Zdw x = false) : Rp tab w ok' x v := by
  cases h with
  | dead v => exact .dead v
  | int k n => exact .int k n
  | bool b => exact .bool b
  | str l s h => exact .str l s h
  | nil T a => exact .nil T a
  | _ => simp [Zdw] at hx
theorem Rq1.alone {w : World} {ok ok' : Nat → Prop} {x : V} {v : Value} {t n : List Nat} (h : Rq1 tab w ok x v t n) (hx : Zdw x = false) : Rq1 tab w ok' x v t n := by
  cases h with
  | deep h => simp [Zdw] at hx
  | tree h => exact .tree (h.alone hx)
  | row h =>
    obtain ⟨ty, xs, ht, hr, hs, he⟩ := h
    refine .row ⟨ty, xs, ht, hr, hs, ?_⟩
    rcases he with he | ⟨ho, -⟩
    · exact .inl he
    · simp [Zdw, ho] at hx
theorem RqL.alone {w : World} {ok ok' : Nat → Prop} {xs : List V} {vs : List Value} {t n : List Nat} (h : RqL (Rq1 tab w ok) xs vs t n) (hx : xs.any Zdw = false) : RqL (Rq1 tab w ok') xs vs t n := by
  induction h with
  | nil => exact .nil
  | cons h1 _ ih =>
    simp only [List.any_cons, Bool.or_eq_false_iff] at hx
    exact .cons (h1.alone hx.1) (ih hx.2)
theorem Rq2.alone {w : World} {ok ok' : Nat → Prop} {x : V} {v : Value} {t n : List Nat} (h : Rq2 tab w ok x v t n) (hx : ZcE x = false) : Rq2 tab w ok' x v t n := by
  cases h with
  | agg h => exact .agg (h.alone hx)
  | nb h hg => exact .nb (h.alone hx) hg
  | rf h hg => exact .rf (h.alone hx) hg
  | ro h hg => exact .ro (h.alone hx) hg
  | one h =>
    cases h with
    | deep h => simp [ZcE, Zdw] at hx
    | row h => exact .one ((Rq1.row h).alone hx)
    | tree h =>
      cases h with
      | agg cs vals hl h => exact .agg ((RqL.of_trees hl h).alone hx)
      | _ => exact .one (.tree (Rp.alone (ok := ok) (by constructor <;> assumption) hx))
theorem Rq3.alone {w : World} {ok ok' : Nat → Prop} {x : V} {v : Value} {t n : List Nat} (h : Rq3 tab w ok x v t n) (hx : Ze4 x = false) : Rq3 tab w ok' x v t n := by
  cases h with
  | one h =>
    have : ZcE x = false := by
      cases h with
      | one h => cases h with
        | row h => exact hx
        | deep h => exact hx
        | tree h => cases h <;> exact hx
      | _ => exact hx
    exact .one (h.alone this)
  | tup h =>
    simp only [Ze4] at hx
    refine .tup ?_
    induction h with
    | nil => exact .nil
    | cons h1 _ ih =>
      simp only [List.any_cons, Bool.or_eq_false_iff] at hx
      exact .cons (h1.alone hx.1) (ih hx.2)
end
end Go.Eng
namespace Go.Eng
section
variable {P : Program} {tab : Tab}
def Mem.turn (M : Mem) (w' : World) (K : List Nat) (us : Us) : Mem :=
  { w := w'
    ρ := fun i => match ZZ us i with | some b => some b.rb | none => M.ρ i
    top := fun i => match ZZ us i with | some b => b.t | none => if i ∈ K then [] else M.top i
    nest := fun i => match ZZ us i with | some b => b.n | none => if i ∈ K then [] else M.nest i
    hp := ZW M.hp (ended K ++ us.blks) }
theorem ZhJ {us : Us} {i : Nat} {b : Bd} (h : ZZ us i = some b) : (∀ g ∈ b.t, g ∈ us.flatMap (·.2.t)) ∧ (∀ g ∈ b.n, g ∈ us.flatMap (·.2.n)) :=
  ⟨fun _ hg => List.mem_flatMap.2 ⟨_, Zdh h, hg⟩, fun _ hg => List.mem_flatMap.2 ⟨_, Zdh h, hg⟩⟩
theorem turn_ok {E : Entry} {M : Mem} (hM : MemOk tab E M) {w' : World} {K0 K : List Nat} {us : Us} {t n : List Nat} {Q : (Nat → Prop) → Prop} {S : List Nat} (hg : Given E M K0 S t n Q) (hK0 : ∀ k ∈ K0, k ∈ K)
    (hkeys : (us.map (·.1)).Nodup) (hin : ∀ u ∈ us, (u.1 ∈ K ∧ M.ρ u.1 = some u.2.rb) ∨ M.hp u.1 = none)
    (hkept : KeptBut t M.w w') (hnd : (us.flatMap (·.2.t) ++ us.flatMap (·.2.n)).Nodup)
    (hT : ∀ g ∈ us.flatMap (·.2.t), g ∈ t ∨ M.w.heap.size ≤ g) (hN : ∀ g ∈ us.flatMap (·.2.n), g ∈ t ++ n ∨ M.w.heap.size ≤ g)
    (hlt : ∀ g ∈ us.flatMap (·.2.t) ++ us.flatMap (·.2.n), g < w'.heap.size)
    (hblk : ∀ u ∈ us, BlkIs tab w' (fun g => (E.okA g ∨ E.mine g) ∧ g < w'.heap.size ∧ (∀ id, id ∉ K → g ∉ M.top id) ∧ g ∉ us.flatMap (·.2.t)) (M.turn w' K us).ρ u.2.blk (some u.2.rb) u.2.t u.2.n) :
    MemOk tab E (M.turn w' K us) ∧ MemLe E M (M.turn w' K us) ∧ ∀ g, ((E.okA g ∨ E.mine g) ∧ g < w'.heap.size ∧ (∀ id, id ∉ K → g ∉ M.top id) ∧ g ∉ us.flatMap (·.2.t)) → okS E (M.turn w' K us) g := by
  obtain ⟨hnd1, hnd2⟩ := ZkC hnd
  have hok2 : ∀ g, ((E.okA g ∨ E.mine g) ∧ g < w'.heap.size ∧ (∀ id, id ∉ K → g ∉ M.top id) ∧ g ∉ us.flatMap (·.2.t)) → okS E (M.turn w' K us) g := by
    rintro g ⟨h1, h2, h3, h4⟩
    refine ⟨h1, h2, fun id hid => ?_⟩
    simp only [Mem.turn] at hid
    cases hl : ZZ us id with
    | some b => rw [hl] at hid; exact h4 ((ZhJ hl).1 g hid)
    | none =>
      rw [hl] at hid
      simp only [] at hid
      split at hid
      · simp at hid
      · exact h3 id ‹_› hid
  have hap : ∀ k, k ∉ K → ∀ g ∈ M.top k ++ M.nest k, g ∉ t ++ n := fun k hk g hgk hgt => by
    obtain ⟨k', hk', hgk'⟩ := Mem.mem_foot.1 (hg.foot g hgt)
    exact hM.apart k k' (fun e => hk (e ▸ hK0 k' hk')) g hgk hgk'
  have hhp : (M.turn w' K us).hp = fun i => match ZZ us i with | some b => some (some b.blk) | none => if i ∈ K then some none else M.hp i := by
    simp only [Mem.turn]
    rw [Zjr, updH_us _ _ hkeys, ZnN]
    try rfl
  have hnotT : ∀ id, ¬(id ∈ K ∨ id ∈ us.map (·.1)) → id ∉ K ∧ ZZ us id = none := fun id h => ⟨fun e => h (.inl e), lookU_none.2 fun e => h (.inr e)⟩
  have main := hM.move (M' := M.turn w' K us) (fun id => id ∈ K ∨ id ∈ us.map (·.1)) (fun id hid => ?_) (fun id rb hrb => ?_) (fun g hg' => ?_) (fun id hid g hg' => ?_)
    ⟨hkept.os, hkept.tape, hkept.output, hkept.size, fun g hg' hn => absurd (List.mem_range.2 hg') hn⟩ (fun g hg1 hg2 => ?_) (fun id hid g hg' => ?_) (fun id hid g hg' => ?_) (fun id hid => ?_) (fun id id' hid hid' hne g hg1 hg2 => ?_)
    (fun id hid g hg' => ?_) (fun id hid => ?_) (fun hle id hid b hb => ?_)
  · exact ⟨main.1, main.2, hok2⟩
  · obtain ⟨h1, h2⟩ := hnotT id hid
    rw [hhp]
    simp [Mem.turn, h1, h2]
  · simp only [Mem.turn]
    cases hl : ZZ us id with
    | none => exact hrb
    | some b =>
      rcases hin _ (Zdh hl) with ⟨_, h⟩ | h
      · rw [hrb] at h; cases h; rfl
      · rw [(hM.fresh _ h).1] at hrb; cases hrb
  · refine hkept.block g hg'.2.1 fun hgt => ?_
    obtain ⟨k, hk, hgk⟩ := hg.top g hgt
    exact hg'.2.2 k hgk
  · obtain ⟨h1, h2⟩ := hnotT id hid
    exact hkept.block g (hM.mine id g hg').2 fun hgt => hap id h1 g hg' (List.mem_append_left _ hgt)
  · refine hkept.block g (Nat.lt_of_lt_of_le hg1 hM.kept.size) fun hgt => ?_
    obtain ⟨k, hk, hgk⟩ := hg.top g hgt
    rcases hM.mineT k g hgk with h | h
    · exact hg2 h
    · omega
  · simp only [Mem.turn] at hg'
    cases hl : ZZ us id with
    | some b =>
      rw [hl] at hg'
      rcases hT g ((ZhJ hl).1 g hg') with h | h
      · obtain ⟨k, hk, hgk⟩ := hg.top g h
        exact .inl ⟨k, .inl (hK0 k hk), hgk⟩
      · exact .inr h
    | none =>
      rw [hl] at hg'
      simp only [] at hg'
      rcases hid with hid | hid
      · simp [hid] at hg'
      · exact absurd hid (lookU_none.1 hl)
  · simp only [Mem.turn] at hg'
    cases hl : ZZ us id with
    | some b =>
      rw [hl] at hg'
      rcases hN g ((ZhJ hl).2 g hg') with h | h
      · obtain ⟨k, hk, hgk⟩ := Mem.mem_foot.1 (hg.foot g h)
        exact .inl ⟨k, .inl (hK0 k hk), hgk⟩
      · exact .inr h
    | none =>
      rw [hl] at hg'
      simp only [] at hg'
      rcases hid with hid | hid
      · simp [hid] at hg'
      · exact absurd hid (lookU_none.1 hl)
  · simp only [Mem.turn]
    cases hl : ZZ us id with
    | some b => exact hnd1 _ (Zdh hl)
    | none =>
      rcases hid with hid | hid
      · simp [hid]
      · exact absurd hid (lookU_none.1 hl)
  · simp only [Mem.turn] at hg1 hg2
    cases hl : ZZ us id with
    | some b =>
      cases hl' : ZZ us id' with
      | some b' =>
        rw [hl] at hg1
        rw [hl'] at hg2
        exact hnd2 id id' b b' hl hl' hne g hg1 hg2
      | none =>
        rw [hl'] at hg2
        rcases hid' with hid' | hid'
        · simp [hid'] at hg2
        · exact absurd hid' (lookU_none.1 hl')
    | none =>
      rw [hl] at hg1
      rcases hid with hid | hid
      · simp [hid] at hg1
      · exact absurd hid (lookU_none.1 hl)
  · simp only [Mem.turn] at hg'
    cases hl : ZZ us id with
    | some b =>
      rw [hl] at hg'
      refine hlt g ?_
      rcases List.mem_append.1 hg' with h | h
      · exact List.mem_append_left _ ((ZhJ hl).1 g h)
      · exact List.mem_append_right _ ((ZhJ hl).2 g h)
    | none =>
      rw [hl] at hg'
      rcases hid with hid | hid
      · simp [hid] at hg'
      · exact absurd hid (lookU_none.1 hl)
  · rw [hhp]
    simp only [Mem.turn]
    cases hl : ZZ us id with
    | some b => simp
    | none =>
      rcases hid with hid | hid
      · simp [hid]
      · exact absurd hid (lookU_none.1 hl)
  · rw [hhp] at hb
    cases hl : ZZ us id with
    | some b' =>
      simp only [hl, Option.some.injEq] at hb
      subst hb
      have := (hblk _ (Zdh hl)).keep (ρ' := (M.turn w' K us).ρ) (fun _ _ h => h) hok2 (fun _ _ => rfl) fun _ _ => rfl
      have e : (M.turn w' K us).ρ id = some b'.rb ∧ (M.turn w' K us).top id = b'.t ∧ (M.turn w' K us).nest id = b'.n := by simp [Mem.turn, hl]
      rw [e.1, e.2.1, e.2.2]
      exact this
    | none =>
      rcases hid with hid | hid
      · simp [hl, hid] at hb
      · exact absurd hid (lookU_none.1 hl)
theorem ZhK {x y : V} {h : ZaC} {K log : List Nat} (e : ZbW x h = some ((y, K), log)) : ∀ k ∈ K, h k ≠ none := by
  cases x with
  | sl id T off len =>
    obtain ⟨blk, l1, b1, l1', h6, h7, h8⟩ := Zi e
    cases h8
    obtain ⟨h6, -⟩ := ZaD h6
    have hK : K = [id] := by
      cases blk with
      | box T cs => exact (Zl h7).elim
      | drow T' els =>
        simp only [] at h7
        split at h7
        · cases Zk h7; rfl
        · exact (Zl h7).elim
      | hrow _ _ _ _ _ => exact (Zl h7).elim
      | grow _ _ => exact (Zl h7).elim
      | row T' own' els =>
        simp only [] at h7
        split at h7 <;> (cases Zk h7; rfl)
    subst hK
    intro k hk
    simp at hk; subst hk
    rw [h6]; simp
  | inl T l => cases Zk (h := h) e; simp
  | nil T => cases Zk (h := h) e; simp
  | int k n => cases Zk (h := h) e; simp
  | bool b => cases Zk (h := h) e; simp
  | str l => cases Zk (h := h) e; simp
  | ep cs off => cases Zk (h := h) e; simp
  | _ => exact (Zl (h := h) e).elim
theorem ZhL {h : ZaC} : ∀ {xs ys : List V} {K log : List Nat}, ZbV ZbW xs h = some ((ys, K), log) → ∀ k ∈ K, h k ≠ none
  | [], ys, K, log, e => by cases Zk (h := h) e; simp
  | x :: xs, ys, K, log, e => by
    obtain ⟨⟨y, k⟩, l1, b1, l1', h1, h2, h3⟩ := Zi e
    obtain ⟨⟨ys', k'⟩, l2, b2, l2', h4, h5, h6⟩ := Zi h2
    cases Zk h5
    cases h3
    cases h6
    intro z hz
    rcases List.mem_append.1 hz with hz | hz
    · exact ZhK h1 z hz
    · exact ZhL h4 z hz
theorem Zip {mkv : TypeId → List V → V} {x y : V} {h : ZaC} {K log : List Nat} (e : Zc4 mkv x h = some ((y, K), log)) : ∀ k ∈ K, h k ≠ none := by
  have hother : ZbW x h = some ((y, K), log) → ∀ k ∈ K, h k ≠ none := fun e => ZhK e
  cases x with
  | bp id off =>
    cases off with
    | succ off => exact (Zl (h := h) e).elim
    | zero =>
      obtain ⟨blk, l1, b1, l1', h6, h7, h8⟩ := Zi e
      cases h8
      obtain ⟨h6, -⟩ := ZaD h6
      cases blk with
      | row T own els => exact (Zl h7).elim
      | drow _ _ => exact (Zl h7).elim
      | hrow _ _ _ _ _ => exact (Zl h7).elim
      | grow _ _ => exact (Zl h7).elim
      | box T cs =>
        obtain ⟨⟨ys, K'⟩, l2, b2, l2', h9, h10, h11⟩ := Zi h7
        cases Zk h10
        cases h11
        intro k hk
        rcases List.mem_cons.1 hk with rfl | hk
        · rw [h6]; simp
        · exact ZhL h9 k hk
  | _ => exact hother e
theorem ZpB {m q : Bool} {x y : V} {h : ZaC} {K S log : List Nat} (e : argV m q x h = some ((y, K, S), log)) : ∀ k ∈ K, h k ≠ none := by
  have hview : ∀ {f : RM (V × List Nat)}, RM.bind f (fun a => RM.ret (a.1, ([] : List Nat), a.2)) h = some ((y, K, S), log) → ∀ k ∈ K, h k ≠ none := by
    intro f e
    obtain ⟨⟨y', k⟩, l1, b1, l1', h5, h6, h7⟩ := Zi e
    cases Zk h6
    cases h7
    simp
  have hv0 : RM.bind (view x) (fun a => RM.ret (a.1, ([] : List Nat), a.2)) h = some ((y, K, S), log) → ∀ k ∈ K, h k ≠ none := fun e => hview e
  have hgive : ∀ {f : RM (V × List Nat)}, (∀ y K log, f h = some ((y, K), log) → ∀ k ∈ K, h k ≠ none) → RM.bind f (fun a => RM.ret (a.1, a.2, ([] : List Nat))) h = some ((y, K, S), log) → ∀ k ∈ K, h k ≠ none := by
    intro f hf e
    obtain ⟨⟨y', k⟩, l1, b1, l1', h5, h6, h7⟩ := Zi e
    cases Zk h6
    cases h7
    exact hf _ _ _ h5
  cases x with
  | bp id off =>
    cases q with
    | true => exact hview (f := ZdE (.bp id off)) e
    | false => exact hgive (f := Zhg id off) (fun y K log e => by
        cases off with
        | zero => exact Zip (mkv := .rf) (x := .bp id 0) (y := y) (log := log) e
        | succ off =>
          have e : RM.bind (Zc4 .rf (.bp id 0)) (fun a => RM.ret (inner (off + 1) a.1, a.2)) h = some ((y, K), log) := e
          obtain ⟨⟨y', k⟩, l1, b1, l1', h5, h6, h7⟩ := Zi e
          cases Zk h6
          cases h7
          exact Zip h5) e
  | sl id T off len =>
    unfold argV at e
    simp only [] at e
    split at e
    · exact hgive (fun y K log e => ZhK e) e
    · exact hview e
  | agg cs =>
    cases m with
    | true =>
      have e : RM.bind (ZbV ZbW cs) (fun r => RM.ret (V.agg r.1, r.2, ([] : List Nat))) h = some ((y, K, S), log) := e
      obtain ⟨⟨ys, k⟩, l1, b1, l1', h5, h6, h7⟩ := Zi e
      cases Zk h6
      cases h7
      exact ZhL h5
    | false => exact hview (f := view (.agg cs)) e
  | _ => exact hv0 e
theorem ZkD {m q : Bool} {h : ZaC} : ∀ {xs ys : List V} {K S log : List Nat}, Zkh m q xs h = some ((ys, K, S), log) → ∀ k ∈ K, h k ≠ none
  | [], ys, K, S, log, e => by cases Zk (h := h) e; simp
  | x :: xs, ys, K, S, log, e => by
    obtain ⟨⟨y, k, s⟩, l1, b1, l1', h1, h2, h3⟩ := Zi e
    obtain ⟨⟨ys', k', s'⟩, l2, b2, l2', h4, h5, h6⟩ := Zi h2
    cases Zk h5
    cases h3
    cases h6
    intro z hz
    rcases List.mem_append.1 hz with hz | hz
    · exact ZpB h1 z hz
    · exact ZkD h4 z hz
theorem Rq1.keep {w : World} {ok ok' : Nat → Prop} {x : V} {v : Value} {t n : List Nat} (h : Rq1 tab w ok x v t n) (hok : ∀ g, ok g → ok' g) : Rq1 tab w ok' x v t n := by
  cases h with
  | tree h => exact .tree (h.keep hok fun _ _ => rfl)
  | row h => exact .row (h.keep hok (fun _ _ => rfl) fun _ _ => rfl)
  | deep h => exact .deep (h.keep hok (fun _ _ => rfl) fun _ _ => rfl)
theorem Rq2.keep {w : World} {ok ok' : Nat → Prop} {x : V} {v : Value} {t n : List Nat} (h : Rq2 tab w ok x v t n) (hok : ∀ g, ok g → ok' g) : Rq2 tab w ok' x v t n := by
  cases h with
  | one h => exact .one (h.keep hok)
  | agg h => exact .agg (h.mono fun _ _ _ _ h => h.keep hok)
  | nb h hg => exact .nb (h.mono fun _ _ _ _ h => h.keep hok) hg
  | rf h hg => exact .rf (h.mono fun _ _ _ _ h => h.keep hok) hg
  | ro h hg => exact .ro (h.mono fun _ _ _ _ h => h.keep hok) hg
theorem Rq3.keep {w : World} {ok ok' : Nat → Prop} {x : V} {v : Value} {t n : List Nat} (h : Rq3 tab w ok x v t n) (hok : ∀ g, ok g → ok' g) : Rq3 tab w ok' x v t n := by
  cases h with
  | one h => exact .one (h.keep hok)
  | tup h => exact .tup (h.mono fun _ _ _ _ h => h.keep hok)
theorem Zoi {w : World} {ok : Nat → Prop} {T T0 : TypeId} {v : Value} (h : Rp tab w ok (.nil T0) v) : Rp tab w ok (nrmT tab T) v := by
  cases h with | nil _ a =>
  unfold nrmT
  split
  · rename_i ty hty
    exact .inl T [] ty a 0 0 0 (fun _ _ => undef) hty (by simp) (by simp) (by simp) (by simp) (by simp)
  · exact .nil T a
theorem Zi0 {w : World} {ok : Nat → Prop} {x : V} {v : Value} (h : Rp tab w ok x v) : Rp tab w ok (nrm1 tab x) v := by
  cases x with
  | nil T => exact Zoi h
  | _ => exact h
theorem Zgw {f : V → V} (hf : f .dead = .dead) (cs : List V) (j : Nat) : (cs.map f).getD j .dead = f (cs.getD j .dead) := by
  simp only [List.getD, List.getElem?_map]
  cases cs[j]? <;> simp [hf]
theorem nrmC_rp {w : World} {ok : Nat → Prop} {x : V} {v : Value} (h : Rp tab w ok x v) : Rp tab w ok (nrmC tab x) v := by
  cases h with
  | ep cs off g o cv h1 h2 h3 => exact .ep _ off g o cv h1 (fun j hj => h2 j (by simpa using hj)) fun j hj => by rw [Zgw rfl]; exact Zi0 (h3 j (by simpa using hj))
  | _ => first | exact .dead _ | exact .int _ _ | exact .bool _ | (apply Rp.str; assumption) | exact .nil _ _ | (apply Rp.inl <;> assumption) | (apply Rp.fn <;> assumption) | (apply Rp.agg <;> assumption) | (apply Rp.nn; assumption) | (apply Rp.nl; assumption) | exact .sk
theorem nrmA_rp {w : World} {ok : Nat → Prop} {e : Option TypeId} {x : V} {v : Value} (h : Rp tab w ok x v) : Rp tab w ok (nrmA tab e x) v := by
  cases h with
  | nil T a => exact Zoi (.nil T a)
  | agg cs vals hl h => exact .agg _ vals (by simpa using hl) fun j hj => by rw [Zgw rfl]; exact Zi0 (h j (by simpa using hj))
  | fn f cs vals hl h => exact .fn f _ vals (by simpa using hl) fun j hj => by rw [Zgw rfl]; exact nrmC_rp (h j (by simpa using hj))
  | ep cs off g o cv h1 h2 h3 => exact .ep _ off g o cv h1 (fun j hj => h2 j (by simpa using hj)) fun j hj => by rw [Zgw rfl]; exact Zi0 (h3 j (by simpa using hj))
  | _ => first | exact .dead _ | exact .int _ _ | exact .bool _ | (apply Rp.str; assumption) | (apply Rp.inl <;> assumption) | (apply Rp.nn; assumption) | (apply Rp.nl; assumption) | exact .sk
theorem nrm1_rq {w : World} {ok : Nat → Prop} {x : V} {v : Value} {t n : List Nat} (h : Rq1 tab w ok x v t n) : Rq1 tab w ok (nrm1 tab x) v t n := by
  cases h with
  | tree h => exact .tree (Zi0 h)
  | row h => exact .row h
  | deep h => exact .deep h
theorem Zoj {w : World} {ok : Nat → Prop} {x : V} {v : Value} {t n : List Nat} (h : Rq1 tab w ok x v t n) : Rq1 tab w ok (nrmO tab x) v t n := by
  cases h with
  | row h => exact .row h
  | deep h => exact .deep h
  | tree h =>
    cases x with
    | nil T =>
      cases h with | nil _ a =>
      simp only [nrmO]
      split
      · rename_i ty hty
        have : Rq1 tab w ok (.rr T true []) (.slice a 0 0) (Zp (.slice a 0 0)) [] :=
          .row ⟨ty, [], hty, ⟨by simp, .inl ⟨a, rfl, rfl⟩⟩, by simp, .inl ⟨rfl, fun _ _ => [], by simp [Zz], by simp⟩⟩
        have e : Zp (.slice a 0 0) = [] := by cases a <;> rfl
        rw [e] at this; exact this
      · exact .tree (.nil T a)
    | _ => exact .tree h
theorem RqL.map {R : V → Value → List Nat → List Nat → Prop} {f : V → V} (hf : ∀ x v t n, R x v t n → R (f x) v t n) {xs : List V} {vs : List Value} {t n : List Nat} (h : RqL R xs vs t n) : RqL R (xs.map f) vs t n := by
  induction h with
  | nil => exact .nil
  | cons h1 _ ih => exact .cons (hf _ _ _ _ h1) ih
theorem Zok {w : World} {ok : Nat → Prop} {e : Option TypeId} {x : V} {v : Value} {t n : List Nat} (h : Rq2 tab w ok x v t n) : Rq2 tab w ok (nrmA tab e x) v t n := by
  cases h with
  | one h => cases h with
    | tree h => exact .one (.tree (nrmA_rp h))
    | row h => exact .one (.row h)
    | deep h => exact .one (.deep h)
  | agg h => exact .agg (h.map fun _ _ _ _ h => nrm1_rq h)
  | nb h hg => exact .nb h hg
  | rf h hg => exact .rf (h.map fun _ _ _ _ h => Zoj h) hg
  | ro h hg => exact .ro (h.map fun _ _ _ _ h => Zoj h) hg
theorem nrmL_rq {w : World} {ok : Nat → Prop} {xs : List V} {vs : List Value} {t n : List Nat} (h : RqL (Rq2 tab w ok) xs vs t n) : ∀ es, RqL (Rq2 tab w ok) (nrmL tab es xs) vs t n := by
  induction h with
  | nil => intro es; cases es <;> exact .nil
  | cons h1 _ ih =>
    intro es
    cases es with
    | nil => exact .cons (Zok h1) (ih [])
    | cons e es => exact .cons (Zok h1) (ih es)
theorem ZkE (f : V → V) (hf : ∀ x, f x = x ∨ (Zgd x = false ∧ Zgd (f x) = false)) : ∀ (xs : List V) (vs : List Value), ZaQ (xs.map f) vs = ZaQ xs vs
  | [], vs => by simp
  | x :: xs, [] => by
    have h1 : ∀ x : V, ∀ xs, ZaQ (x :: xs) [] = [] := fun x xs => by cases x <;> rfl
    rw [List.map_cons, h1, h1]
  | x :: xs, v :: vs => by
    have ih := ZkE f hf xs vs
    have hn : ∀ y : V, Zgd y = false → ∀ ys, ZaQ (y :: ys) (v :: vs) = ZaQ ys vs := fun y hy ys => by
      cases y <;> first | rfl | (simp [Zgd] at hy; done)
    rw [List.map_cons]
    rcases hf x with e | ⟨e1, e2⟩
    · rw [e]
      cases x <;> first | (simp only [ZaQ]; rw [ih]) | simp only [ZaQ, ih]
    · rw [hn _ e2, hn _ e1, ih]
theorem nrm1_no (x : V) : nrm1 tab x = x ∨ (Zgd x = false ∧ Zgd (nrm1 tab x) = false) := by
  cases x with
  | nil T =>
    refine .inr ⟨rfl, ?_⟩
    simp only [nrm1, nrmT]
    split <;> rfl
  | _ => exact .inl rfl
inductive Alike : List (V × Value) → List (V × Value) → Prop where
  | nil : Alike [] []
  | same {p : V × Value} {a b : List (V × Value)} : Alike a b → Alike (p :: a) (p :: b)
  | rf {T : TypeId} {c d : List V} {v : Value} {a b : List (V × Value)} : Alike a b → Alike ((.rf T c, v) :: a) ((.rf T d, v) :: b)
theorem Alike.refl : ∀ a, Alike a a
  | [] => .nil
  | _ :: a => .same (Alike.refl a)
theorem Alike.append {a b c d : List (V × Value)} (h : Alike a b) (k : Alike c d) : Alike (a ++ c) (b ++ d) := by
  induction h with
  | nil => exact k
  | same _ ih => exact .same ih
  | rf _ ih => exact .rf ih
theorem ZkF (e : Option TypeId) (x : V) (v : Value) : Alike (Zb3 (nrmA tab e x) v) (Zb3 x v) := by
  cases x with
  | nil T => simp only [nrmA, nrmT]; split <;> exact .nil
  | agg cs =>
    cases v with
    | agg vs => simp only [nrmA, Zb3]; rw [ZkE _ nrm1_no]; exact .refl _
    | _ => exact .refl _
  | rf T cs => exact .rf .nil
  | ro T off cs =>
    cases v with
    | pointer a => cases a with
      | none => exact .nil
      | some a => exact .rf .nil
    | _ => exact .nil
  | _ => exact .refl _
theorem ZhM : ∀ (es : List (Option TypeId)) (xs : List V) (vs : List Value), Alike (Zbo (nrmL tab es xs) vs) (Zbo xs vs)
  | es, [], vs => by cases es <;> exact .refl _
  | [], x :: xs, [] => .refl _
  | e :: es, x :: xs, [] => .refl _
  | [], x :: xs, v :: vs => (ZkF none x v).append (ZhM [] xs vs)
  | e :: es, x :: xs, v :: vs => (ZkF e x v).append (ZhM es xs vs)
theorem OutL.alike {R : V → Value → List Nat → List Nat → Prop} {ps qs : List (V × Value)} {ys : List V} {t n : List Nat} (h : Alike ps qs) (hr : OutL R ps ys t n) : OutL R qs ys t n := by
  induction h generalizing ys t n with
  | nil => exact hr
  | same _ ih => cases hr with | cons h1 h2 h3 => exact .cons h1 h2 (ih h3)
  | rf _ ih =>
    cases hr with | @cons _ y _ _ _ _ _ _ h1 h2 h3 =>
    refine .cons ?_ h2 (ih h3)
    cases y <;> first | exact h1 | exact h1.elim
def Zbp (b : Bd) : Bd := match b.blk with
  | .row T true els => ⟨.drow T els, b.rb, b.t ++ b.n, []⟩
  | _ => b
theorem ZoV (b : Bd) : (Zbp b).blk = Zgo b.blk := by
  obtain ⟨blk, rb, t, n⟩ := b
  unfold Zbp Zgo
  cases blk with
  | row T own els => cases own <;> rfl
  | _ => rfl
theorem ZpC (b : Bd) : (Zbp b).rb = b.rb := by
  obtain ⟨blk, rb, t, n⟩ := b
  unfold Zbp
  cases blk with
  | row T own els => cases own <;> rfl
  | _ => rfl
theorem ZpD (b : Bd) : ((Zbp b).t ++ (Zbp b).n).Perm (b.t ++ b.n) := by
  obtain ⟨blk, rb, t, n⟩ := b
  unfold Zbp
  cases blk with
  | row T own els => cases own <;> simp
  | _ => exact .refl _
theorem ZpE {w : World} {ok : Nat → Prop} {ρ : Nat → Option RB} {b : Bd} (h : BlkIs tab w ok ρ b.blk (some b.rb) b.t b.n) : BlkIs tab w ok ρ (Zbp b).blk (some (Zbp b).rb) (Zbp b).t (Zbp b).n := by
  obtain ⟨blk, rb, t, n⟩ := b
  unfold Zbp
  cases blk with
  | row T own els =>
    cases own with
    | false => exact h
    | true =>
      obtain ⟨ty, v, h1, h2, h3, h4⟩ := h
      dsimp only at h4
      subst h4
      exact ⟨ty, v, n, h1, h2, h3, rfl, rfl⟩
  | _ => exact h
theorem numB_map (nid : Nat) (Bs : List Bd) : numB nid (Bs.map Zbp) = (numB nid Bs).map fun u => (u.1, Zbp u.2) := by
  induction Bs generalizing nid with
  | nil => rfl
  | cons b Bs ih => simp [numB, ih]
theorem Zmb (nid : Nat) (bs : List Blk) : ZcL nid (bs.map Zgo) = (ZcL nid bs).map fun p => (p.1, p.2.map Zgo) := by
  induction bs generalizing nid with
  | nil => rfl
  | cons b bs ih => simp [ZcL, ih]
theorem _root_.List.perm_append4 {α : Type} (a b c d : List α) : ((a ++ b) ++ (c ++ d)).Perm ((a ++ c) ++ (b ++ d)) := by
  rw [List.append_assoc, List.append_assoc]
  exact List.Perm.append_left a (List.perm_append_comm_assoc _ _ _)
theorem ZnO (us : Us) : (us.flatMap (fun u => (Zbp u.2).t) ++ us.flatMap (fun u => (Zbp u.2).n)).Perm (us.flatMap (·.2.t) ++ us.flatMap (·.2.n)) := by
  induction us with
  | nil => exact .refl _
  | cons u us ih =>
    simp only [List.flatMap_cons]
    exact (List.perm_append4 _ _ _ _).trans (((ZpD u.2).append ih).trans (List.perm_append4 _ _ _ _).symm)
theorem ZoW {cfg : Cfg} (ht : cfg.tab = tab) (hS : Zbh P tab cfg.sums) {E : Entry} {M : Mem} (hM : MemOk tab E M) {nid : Nat} {f : FuncId} {args : List V} {vals : List Value}
    (hr : RsL tab M.w (okS E M) M.ρ args vals) {Ef : Eff} {log : List Nat} (h : Zki cfg nid f args M.hp = some (Ef, log)) (hfresh : ∀ id ∈ Ef.upd.map (·.1), nid ≤ id → M.hp id = none) :
    ZfU P f ∧ Calls P f vals.toArray M.w fun e w' => ∃ val, e = .returned val ∧ ∃ M', M'.w = w' ∧ StepOk tab E M Ef val M' := by
  subst ht
  obtain ⟨⟨aw, K, S⟩, l1, b1, l1', h1, h2, h3⟩ := Zi h
  obtain ⟨h2a, h2b⟩ := Zv h2
  obtain ⟨⟨pre, r⟩, l2, b2, l2', h4, h5, h6⟩ := Zi h2b
  obtain ⟨h4, -⟩ := Zt h4
  obtain ⟨h5a, h5b⟩ := Zv h5
  dsimp only at h5a h5b h4
  subst h5a
  obtain ⟨q, l3, b3, l3', h7, h8, h9⟩ := Zi h5b
  obtain ⟨h7, -⟩ := Zt h7
  cases Zk h8
  cases h9; cases h6; cases h3
  generalize hLk : (bif Ze4 r.1 || r.2.any ZcE then S else []) = leak at *
  have hleak : ∀ k ∈ leak, k ∈ S := fun k hk => by
    rw [← hLk] at hk
    cases hsh : (Ze4 r.1 || r.2.any ZcE) with
    | false => rw [hsh] at hk; simp at hk
    | true => rw [hsh] at hk; exact hk
  simp only [Bool.and_eq_true, List.all_eq_true, Bool.not_eq_true', List.contains_eq_mem, decide_eq_false_iff_not] at h2a
  obtain ⟨hKd, hLd, hSK⟩ := h2a
  have hK := ZcI hKd
  obtain ⟨⟨t, n, hg⟩, hlent, hsub⟩ := ZkB hM args vals hr h1
  have hmineK : ∀ g ∈ t ++ n, E.mine g ∧ g < M.w.heap.size := fun g hgt => by
    obtain ⟨k, hk, hgk⟩ := Mem.mem_foot.1 (hg.foot g hgt)
    exact hM.mine k g hgk
  have hap : ∀ k, k ∉ K → ∀ g ∈ M.top k ++ M.nest k, g ∉ t ++ n := fun k hk g hgk hgt => by
    obtain ⟨k', hk', hgk'⟩ := Mem.mem_foot.1 (hg.foot g hgt)
    exact hM.apart k k' (fun e => hk (e ▸ hk')) g hgk hgk'
  have hq := hg.is hK (fun g => okS E M g ∨ (∃ k ∈ K, g ∈ M.top k ∧ g ∉ t) ∨ ∃ k ∈ S, g ∈ M.top k) (fun g h => .inl h) (fun k hk g hgk hgt => .inr (.inl ⟨k, hk, hgk, hgt⟩)) fun k hk g hgk => .inr (.inr ⟨k, hk, hgk⟩)
  refine ⟨(hS f _ r h4).1, Calls.mono ((hS f _ r h4).2 M.w _ vals t n (nrmL_rq hq _) (hg.nodup hK) (fun g hok => ?_) fun g hgt => (hmineK g hgt).2) ?_⟩
  · rcases hok with hok | ⟨k, hk, hgk, hgt⟩ | ⟨k, hk, hgk⟩
    · refine ⟨hok.2.1, fun hgt => ?_⟩
      obtain ⟨k, hk, hgk⟩ := hg.top g hgt
      exact hok.2.2 k hgk
    · exact ⟨(hM.mine k g (List.mem_append_left _ hgk)).2, hgt⟩
    · exact ⟨(hM.mine k g (List.mem_append_left _ hgk)).2, fun hgt => hap k (hSK k hk) g (List.mem_append_left _ hgk) (List.mem_append_left _ hgt)⟩
  rintro e w' ⟨val, rfl, rt, rn, ot, on, r1, r2, hnd, hT, hN, hlt, hkept⟩
  refine ⟨val, rfl, ?_⟩
  have r2 := r2.alike (ZhM _ _ _)
  have hsz := hkept.size
  have hmono : ∀ g, ((((okS E M g ∨ (∃ k ∈ K, g ∈ M.top k ∧ g ∉ t) ∨ ∃ k ∈ S, g ∈ M.top k) ∨ g ∈ t ++ n ∨ M.w.heap.size ≤ g) ∧ g < w'.heap.size ∧ g ∉ ot ++ rt) ∧ leak = S) →
      (E.okA g ∨ E.mine g) ∧ g < w'.heap.size ∧ (∀ id, id ∉ K ++ leak → g ∉ M.top id) ∧ g ∉ ot ++ rt := by
    rintro g ⟨⟨z1, z2, z3⟩, hLS⟩
    suffices hs : (E.okA g ∨ E.mine g) ∧ ∀ id, id ∉ K ++ leak → g ∉ M.top id from ⟨hs.1, z2, hs.2, z3⟩
    rcases z1 with (hok | ⟨k, hk, hgk, hgt⟩ | ⟨k, hk, hgk⟩) | hgt | hge
    · exact ⟨hok.1, fun id _ => hok.2.2 id⟩
    · exact ⟨.inr (hM.mine k g (List.mem_append_left _ hgk)).1, fun id hid hgi => hM.apart id k (fun e => hid (List.mem_append_left _ (e ▸ hk))) g (List.mem_append_left _ hgi) (List.mem_append_left _ hgk)⟩
    · exact ⟨.inr (hM.mine k g (List.mem_append_left _ hgk)).1, fun id hid hgi => hM.apart id k (fun e => hid (List.mem_append_right _ (hLS ▸ e ▸ hk))) g (List.mem_append_left _ hgi) (List.mem_append_left _ hgk)⟩
    · exact ⟨.inr (hmineK g hgt).1, fun id hid hgi => hap id (fun h => hid (List.mem_append_left _ h)) g (List.mem_append_left _ hgi) hgt⟩
    · exact ⟨.inr (.inr (Nat.le_trans hM.kept.size hge)), fun id _ hgi => by have := (hM.mine id g (List.mem_append_left _ hgi)).2; omega⟩
  have hlentO := hlent
  generalize hbs : (bif cfg.deep && (K.isEmpty && !(Ze4 r.1 || r.2.any ZcE)) then (Zdm q.2 r.1).2.map Zgo else (Zdm q.2 r.1).2) = bs at hfresh ⊢
  have hKlt : ∀ i ∈ K, i < nid := fun i hi => by
    rcases Nat.lt_or_ge i nid with h | h
    · exact h
    · exact absurd (hfresh i (by simp only [List.map_append, List.mem_append]; exact .inl (by simp only [ended, List.map_append, List.mem_append, List.map_map]; exact .inl (by simpa using hi))) h) (ZkD h1 i hi)
  have hidlt : ∀ i ∈ args.flatMap (lent (cfg.mutf f) (cfg.rof f)), i < nid := fun i hi => hKlt i (hsub i hi)
  have fin : ∀ (okf : Nat → Prop) (rt' rn' : List Nat) (Bs : List Bd), ZcL q.2 bs = Us.blks (numB q.2 Bs) → rt' = (numB q.2 Bs).flatMap (·.2.t) → rn' = (numB q.2 Bs).flatMap (·.2.n) →
      (∀ ρ : Nat → Option RB, (∀ u ∈ numB q.2 Bs, ρ u.1 = some u.2.rb) → Rs cfg.tab w' okf ρ (Zdm q.2 r.1).1 val ∧ ∀ u ∈ numB q.2 Bs, BlkIs cfg.tab w' okf ρ u.2.blk (some u.2.rb) u.2.t u.2.n) →
      OutL (Rq2 cfg.tab w' okf) (Zbo aw vals) r.2 ot on → (∀ g, okf g → (E.okA g ∨ E.mine g) ∧ g < w'.heap.size ∧ (∀ id, id ∉ K ++ leak → g ∉ M.top id) ∧ g ∉ ot ++ rt') →
      ((ot ++ rt') ++ (on ++ rn')).Nodup → (∀ g ∈ ot ++ rt', g ∈ t ∨ M.w.heap.size ≤ g) → (∀ g ∈ on ++ rn', g ∈ t ++ n ∨ M.w.heap.size ≤ g) → (∀ g ∈ (ot ++ rt') ++ (on ++ rn'), g < w'.heap.size) →
      ∃ M', M'.w = w' ∧ StepOk cfg.tab E M ⟨(Zdm q.2 r.1).1, ended (K ++ leak) ++ (q.1 ++ ZcL q.2 bs)⟩ val M' := by
    intro okf rt' rn' Bs c1 c2 c3 c4 r2' hokf hnd hT hN hlt
    obtain ⟨us1, u1, u2, u3, u4, u5, u6, u7⟩ := Zma (M := M) hlent r2' h7
    dsimp only at u1 u4 u5
    have hupd : ended (K ++ leak) ++ (q.1 ++ ZcL q.2 bs) = ended (K ++ leak) ++ Us.blks (us1 ++ numB q.2 Bs) := by
      rw [u1, c1]; simp [Us.blks]
    have hflatT : (us1 ++ numB q.2 Bs).flatMap (·.2.t) = ot ++ rt' := by rw [List.flatMap_append, ← u2, ← c2]
    have hflatN : (us1 ++ numB q.2 Bs).flatMap (·.2.n) = on ++ rn' := by rw [List.flatMap_append, ← u3, ← c3]
    have hkeys : ((us1 ++ numB q.2 Bs).map (·.1)).Nodup := by
      rw [List.map_append, List.nodup_append]
      refine ⟨u6 (ZcI hLd) hidlt, ZhH _ _, fun a ha b hb e => ?_⟩
      subst e
      obtain ⟨u, hu, e⟩ := List.mem_map.1 ha
      obtain ⟨u', hu', e'⟩ := List.mem_map.1 hb
      have k := Zd3 u' hu'
      rcases u5 u hu with ⟨k1, -⟩ | ⟨k1, k2⟩
      · have := hidlt u.1 k1; omega
      · omega
    have hkey : ∀ u ∈ us1 ++ numB q.2 Bs, nid ≤ u.1 → M.hp u.1 = none := fun u hu hge => hfresh u.1 (by
      dsimp only
      rw [hupd, List.map_append, List.mem_append]
      exact .inr (List.mem_map.2 ⟨_, List.mem_map.2 ⟨u, hu, rfl⟩, rfl⟩)) hge
    have hin : ∀ u ∈ us1 ++ numB q.2 Bs, (u.1 ∈ K ++ leak ∧ M.ρ u.1 = some u.2.rb) ∨ M.hp u.1 = none := fun u hu => by
      rcases List.mem_append.1 hu with hu | hu
      · rcases u5 u hu with ⟨k1, k2⟩ | ⟨k1, k2⟩
        · exact .inl ⟨List.mem_append_left _ (hsub _ k1), k2⟩
        · exact .inr (hkey u (List.mem_append_left _ hu) k1)
      · have k := Zd3 u hu
        exact .inr (hkey u (List.mem_append_right _ hu) (by omega))
    have hturn : ∀ u ∈ us1 ++ numB q.2 Bs, (M.turn w' (K ++ leak) (us1 ++ numB q.2 Bs)).ρ u.1 = some u.2.rb := fun u hu => by
      simp only [Mem.turn, ZmK hkeys hu]
    obtain ⟨s1, s2⟩ := c4 (M.turn w' (K ++ leak) (us1 ++ numB q.2 Bs)).ρ fun u hu => hturn u (List.mem_append_right _ hu)
    have s3 := u7 (M.turn w' (K ++ leak) (us1 ++ numB q.2 Bs)).ρ fun u hu => hturn u (List.mem_append_left _ hu)
    have main := turn_ok hM hg (K := K ++ leak) (fun k hk => List.mem_append_left _ hk) (us := us1 ++ numB q.2 Bs) hkeys hin hkept (by rw [hflatT, hflatN]; exact hnd) (by rw [hflatT]; exact hT) (by rw [hflatN]; exact hN) (by rw [hflatT, hflatN]; exact hlt)
      (by
        rw [hflatT]
        intro u hu
        rcases List.mem_append.1 hu with hu | hu
        · exact (s3 u hu).keep (fun _ _ h => h) hokf (fun _ _ => rfl) fun _ _ => rfl
        · exact (s2 u hu).keep (fun _ _ h => h) hokf (fun _ _ => rfl) fun _ _ => rfl)
    obtain ⟨m1, m2, m3⟩ := main
    refine ⟨M.turn w' (K ++ leak) (us1 ++ numB q.2 Bs), rfl, ⟨m1, m2, ?_, ?_⟩⟩
    · show ZW M.hp (ended (K ++ leak) ++ (us1 ++ numB q.2 Bs).blks) = _
      rw [← hupd]
    · rw [hflatT] at m3
      exact s1.mono (fun _ _ h => h) (fun g hg => m3 g (hokf g hg)) fun _ _ => rfl
  cases hdp : (cfg.deep && (K.isEmpty && !(Ze4 r.1 || r.2.any ZcE))) with
  | true =>
    rw [hdp] at hbs
    have hbs : (Zdm q.2 r.1).2.map Zgo = bs := hbs
    subst hbs
    simp only [Bool.and_eq_true, Bool.not_eq_true', Bool.or_eq_false_iff, List.any_eq_false, List.isEmpty_iff] at hdp
    obtain ⟨-, rfl, hsh1, hsh2⟩ := hdp
    have htn : ∀ g, g ∉ t ++ n := fun g hgt => by
      obtain ⟨k, hk, -⟩ := Mem.mem_foot.1 (hg.foot g hgt)
      simp at hk
    obtain ⟨Bs, c0, c1, c2, c3, c4⟩ := (Zh5 (r1.alone (ok' := fun _ => False) hsh1) q.2).numB
    have hperm := ZnO (numB q.2 Bs)
    have hnumB : numB q.2 (Bs.map Zbp) = (numB q.2 Bs).map fun u => (u.1, Zbp u.2) := numB_map _ _
    have hTN : ((ot ++ (numB q.2 (Bs.map Zbp)).flatMap (·.2.t)) ++ (on ++ (numB q.2 (Bs.map Zbp)).flatMap (·.2.n))).Perm ((ot ++ rt) ++ (on ++ rn)) := by
      rw [hnumB, c2, c3]
      simp only [List.flatMap_map]
      refine (List.perm_append4 _ _ _ _).trans (((List.Perm.refl _).append hperm).trans (List.perm_append4 _ _ _ _).symm)
    refine fin (fun _ => False) _ _ (Bs.map Zbp) ?_ rfl rfl (fun ρ hρ => ?_) (r2.mono fun y hy v t n h => h.alone (by simpa using hsh2 y hy)) (fun _ h => h.elim)
      ((hTN.nodup_iff).2 hnd) (fun g hg' => ?_) (fun g hg' => ?_) fun g hg' => hlt g ((hTN.mem_iff).1 hg')
    · rw [Zmb, c1, hnumB]
      simp only [Us.blks, List.map_map]
      exact List.map_congr_left fun u _ => by simp only [Function.comp, ZoV, Option.map_some]
    · obtain ⟨d1, d2⟩ := c4 ρ fun u hu => by
        have := hρ (u.1, Zbp u.2) (by rw [hnumB]; exact List.mem_map.2 ⟨u, hu, rfl⟩)
        rw [ZpC] at this; exact this
      refine ⟨d1, fun u hu => ?_⟩
      rw [hnumB] at hu
      obtain ⟨u0, hu0, rfl⟩ := List.mem_map.1 hu
      exact ZpE (d2 u0 hu0)
    · have h9 := (hTN.mem_iff (a := g)).1 (List.mem_append_left _ hg')
      rcases List.mem_append.1 h9 with h9 | h9
      · exact hT g h9
      · rcases hN g h9 with h | h
        · exact absurd h (htn g)
        · exact .inr h
    · have h9 := (hTN.mem_iff (a := g)).1 (List.mem_append_right _ hg')
      rcases List.mem_append.1 h9 with h9 | h9
      · rcases hT g h9 with h | h
        · exact absurd (List.mem_append_left _ h) (htn g)
        · exact .inr h
      · exact hN g h9
  | false =>
    rw [hdp] at hbs
    have hbs : (Zdm q.2 r.1).2 = bs := hbs
    subst hbs
    have hres : Rq3 cfg.tab w' (fun g => (E.okA g ∨ E.mine g) ∧ g < w'.heap.size ∧ (∀ id, id ∉ K ++ leak → g ∉ M.top id) ∧ g ∉ ot ++ rt) r.1 val rt rn ∧
        OutL (Rq2 cfg.tab w' (fun g => (E.okA g ∨ E.mine g) ∧ g < w'.heap.size ∧ (∀ id, id ∉ K ++ leak → g ∉ M.top id) ∧ g ∉ ot ++ rt)) (Zbo aw vals) r.2 ot on := by
      cases hsh : (Ze4 r.1 || r.2.any ZcE) with
      | true =>
        have hS0 : leak = S := by rw [← hLk, hsh]; rfl
        have hm := fun g hg => hmono g ⟨hg, hS0⟩
        exact ⟨r1.keep hm, r2.mono fun y _ v t n h => h.keep hm⟩
      | false =>
        simp only [Bool.or_eq_false_iff, List.any_eq_false] at hsh
        exact ⟨r1.alone hsh.1, r2.mono fun y hy v t n h => h.alone (by simpa using hsh.2 y hy)⟩
    obtain ⟨r1', r2'⟩ := hres
    obtain ⟨Bs, c0, c1, c2, c3, c4⟩ := (Zh5 r1' q.2).numB
    exact fin _ rt rn Bs c1 c2 c3 c4 r2' (fun _ h => h) hnd hT hN hlt
end
end Go.Eng
namespace Go.Eng
section
variable {P : Program}
def Slots (tab : Tab) (E : Entry) (M : Mem) (sl : Nat → V) (a : Act) : Prop := ∀ t, M.Rs tab E (sl t) (a.eval (.tmp t))
theorem ZpF {tab : Tab} {w : World} {ok : Nat → Prop} (v : Value) : Rp tab w ok (Zj7 v) v := by
  unfold Zj7
  split
  · exact .int _ _
  · exact .bool _
  · exact .str _ _ rfl
  · exact .nil _ _
  · exact .dead _
theorem ZoX {tab : Tab} {w : World} {ok : Nat → Prop} (v : Value) : Rp tab w ok (ofValue v) v := by
  unfold ofValue
  split
  · exact .int _ _
  · exact .bool _
  · exact .str _ _ rfl
  · exact .nil _ _
  · exact .fn _ [] [] rfl (by simp)
  · rename_i cs
    have h := Rp.agg (tab := tab) (w := w) (ok := ok) (cs.toList.map Zj7) cs.toList (by simp) fun j hj => ?_
    · simpa using h
    · simp at hj
      simp only [List.getD, List.getElem?_map, Array.getElem?_toList, Array.getElem?_eq_getElem hj, Option.map_some, Option.getD_some]
      exact ZpF _
  · exact .dead _
theorem ev_rs {tab : Tab} {E : Entry} {M : Mem} {sl : Nat → V} {a : Act} (h : Slots tab E M sl a) (x : Operand) : M.Rs tab E (ev sl x) (a.eval x) := by
  cases x with
  | tmp t => exact h t
  | const v => exact .tree (ZoX v)
  | func f => exact .tree (.fn f [] [] rfl (by simp))
  | global g => exact .tree (.dead _)
theorem Rs.soft {tab : Tab} {w : World} {ok : Nat → Prop} {ρ : Nat → Option RB} {x : V} {v : Value} (h : Rs tab w ok ρ x v) : Rs tab w ok ρ x.soft v := by
  cases h with
  | tree h => exact .tree h.soft
  | sl id T off len sz N a a' cap n h1 h2 h3 h4 h5 h6 => exact .sl id T off len sz N a a' cap n h1 h2 h3 h4 h5 h6
  | bp id off g h => exact .bp id off g h
  | rp id idx off T sz N g cap h1 h2 => exact .rp id idx off T sz N g cap h1 h2
  | agg cs vals h1 h2 => exact .agg cs vals h1 h2
  | tup cs vals h1 h2 => exact .tup cs vals h1 h2
  | fn f cs vals h1 h2 => exact .fn f cs vals h1 h2
theorem Zax {tab : Tab} {E : Entry} {M : Mem} {sl : Nat → V} {a : Act} (h : Slots tab E M sl a) (x : Operand) : M.Rs tab E (sft (ev sl) x) (a.eval x) := (ev_rs h x).soft
theorem ZmL {o : Oper} {a : Act} {w w' : World} {v : Value} {next : Act → World → Prop} {Q : Exit → Act → World → Prop} (h : (execOp a.eval o).run P w = .ok (.value v) w') (hn : next (a.put o.dst v) w') : o.wp P a w next Q := by
  simp only [Oper.wp, h]; exact hn
theorem wp_skip' {o : Oper} {a : Act} {w w' : World} {next : Act → World → Prop} {Q : Exit → Act → World → Prop} (h : (execOp a.eval o).run P w = .ok .skip w') (hn : next (a.put o.dst undef) w') : o.wp P a w next Q := by
  simp only [Oper.wp, h]; exact hn
theorem Zbf {s : Sem Value} {w w' : World} {v : Value} (h : s.run P w = .ok v w') : (do pure (.value (← s)) : Sem Next).run P w = .ok (.value v) w' := by
  simp only [Sem.run_bind, h, Result.andThen_ok, Sem.run_pure]
theorem run_u {s : Sem Unit} {w w' : World} (h : s.run P w = .ok () w') : (do s; pure .skip : Sem Next).run P w = .ok .skip w' := by
  simp only [Sem.run_bind, h, Result.andThen_ok, Sem.run_pure]
def OpOk (tab : Tab) (E : Entry) (M : Mem) (o : Oper) (a : Act) (Ef : Eff) : Act → World → Prop := fun a' w' => ∃ M' val, a' = a.put o.dst val ∧ M'.w = w' ∧ StepOk tab E M Ef val M'
section
variable {cfg : Cfg} {E : Entry} {M : Mem} {o : Oper} {a : Act} {Q : Exit → Act → World → Prop}
theorem Zbc (hM : MemOk cfg.tab E M) {x : V} {v : Value} (hr : (execOp a.eval o).run P M.w = .ok (.value v) M.w) (hv : M.Rs cfg.tab E x v) : o.wp P a M.w (OpOk cfg.tab E M o a ⟨x, []⟩) Q :=
  ZmL hr ⟨M, v, rfl, rfl, .same hM hv⟩
theorem ZdI {Ef : Eff} (h : ∃ M' val, (execOp a.eval o).run P M.w = .ok (.value val) M'.w ∧ StepOk cfg.tab E M Ef val M') : o.wp P a M.w (OpOk cfg.tab E M o a Ef) Q := by
  obtain ⟨M', val, hr, hs⟩ := h
  exact ZmL hr ⟨M', val, rfl, rfl, hs⟩
theorem op_unit {Ef : Eff} (h : ∃ M', (execOp a.eval o).run P M.w = .ok .skip M'.w ∧ StepOk cfg.tab E M Ef undef M') : o.wp P a M.w (OpOk cfg.tab E M o a Ef) Q := by
  obtain ⟨M', hr, hs⟩ := h
  exact wp_skip' hr ⟨M', _, rfl, rfl, hs⟩
theorem Zdx {m : RM V} {h : ZaC} {Ef : Eff} {log : List Nat} (e : RM.bind m (fun v => RM.ret (⟨v, []⟩ : Eff)) h = some (Ef, log)) : ∃ x l, m h = some (x, l) ∧ Ef = ⟨x, []⟩ := by
  obtain ⟨x, l1, b1, l1', h1, h2, h3⟩ := Zi e
  cases Zk h2
  cases h3
  exact ⟨x, l1, h1, rfl⟩
end
theorem ZkG {tab : Tab} {E : Entry} {M : Mem} {sl : Nat → V} {a : Act} (h : Slots tab E M sl a) (ps : Array (Nat × Operand)) :
    (ps.map fun (i, x) => (i, a.eval x)).toList.map (·.1) = (Zcl (sft (ev sl)) ps).map (·.1) ∧
    ∀ k, k < (Zcl (sft (ev sl)) ps).length → M.Rs tab E ((Zcl (sft (ev sl)) ps).getD k (0, .dead)).2 ((ps.map fun (i, x) => (i, a.eval x)).toList.getD k (0, undef)).2 := by
  refine ⟨by simp [Zcl], fun k hk => ?_⟩
  simp [Zcl] at hk
  simp only [Zcl, Array.toList_map, List.getD, List.getElem?_map, Array.getElem?_toList, Array.getElem?_eq_getElem hk, Option.map_some, Option.getD_some]
  exact Zax h _
theorem ZgQ {tab : Tab} {E : Entry} {M : Mem} {sl : Nat → V} {a : Act} (h : Slots tab E M sl a) (xs : List Operand) : RsL tab M.w (okS E M) M.ρ (xs.map (sft (ev sl))) (xs.map a.eval) := by
  refine ⟨by simp, fun j hj => ?_⟩
  simp at hj
  simp only [List.getD, List.getElem?_map, List.getElem?_eq_getElem hj, Option.map_some, Option.getD_some]
  exact Zax h _
theorem RsL.append {tab : Tab} {w : World} {ok : Nat → Prop} {ρ : Nat → Option RB} : ∀ {xs : List V} {vs : List Value} {ys : List V} {us : List Value}, RsL tab w ok ρ xs vs → RsL tab w ok ρ ys us → RsL tab w ok ρ (xs ++ ys) (vs ++ us)
  | [], [], _, _, _, h => h
  | [], _ :: _, _, _, h, _ => by have := h.1; simp at this
  | _ :: _, [], _, _, h, _ => by have := h.1; simp at this
  | x :: xs, v :: vs, _, _, h, k => .cons h.head.1 (RsL.append h.head.2 k)
theorem ZlJ {f : FuncId} (h : ZfU P f) (args : Array Value) (w : World) : (callFunc f args).run P w = .ok (.enter f args) w := by
  obtain ⟨fn, h1, h2, h3⟩ := h
  have h4 : fn.name ≠ "runtime.NumGoroutine" := by simpa using h2
  have h5 : fn.body ≠ none := by intro e; rw [e] at h3; cases h3
  simp [callFunc, h1, h4, h5]
theorem ZoY {tab : Tab} {t t2 : TypeId} {nid : Nat} {s x : V} {hp : ZaC} {Ef : Eff} {log : List Nat} (h : Zft tab t t2 nid s x hp = some (Ef, log)) : nid ∈ Ef.upd.map (·.1) := by
  obtain ⟨e, l1, b1, l1', h1, h2, h3⟩ := Zi h
  obtain ⟨ty, l2, b2, l2', h4, h5, h6⟩ := Zi h2
  obtain ⟨base, l3, b3, l3', h7, h8, h9⟩ := Zi h5
  obtain ⟨more, l4, b4, l4', h10, h11, h12⟩ := Zi h8
  obtain ⟨-, h13⟩ := Zv h11
  cases Zk h13
  cases h12; cases h9; cases h6; cases h3
  simp
theorem make_key {tab : Tab} {t : TypeId} {nid : Nat} {x y : V} {hp : ZaC} {Ef : Eff} {log : List Nat} (h : Zdn tab t nid x y hp = some (Ef, log)) : nid ∈ Ef.upd.map (·.1) := by
  obtain ⟨e, l1, b1, l1', h1, h2, h3⟩ := Zi h
  obtain ⟨ty, l2, b2, l2', h4, h5, h6⟩ := Zi h2
  split at h5
  · obtain ⟨-, h13⟩ := Zv h5
    cases Zk h13
    cases h6; cases h3
    simp
  · exact (Zl h5).elim
theorem Zmc {cfg : Cfg} (hT : Zx P cfg.tab) {E : Entry} {M : Mem} (hM : MemOk cfg.tab E M) {nid : Nat} {b : Builtin} {ts : Array TypeId} {ot : TypeId} {cs : Array Bool} {xs : List V} {vs : List Value}
    (hr : RsL cfg.tab M.w (okS E M) M.ρ xs vs) {Ef : Eff} {log : List Nat} (h : ZeN cfg nid b ts.toList xs M.hp = some (Ef, log)) (hn : nid ∈ Ef.upd.map (·.1) → M.hp nid = none) :
    ∃ M' val, (builtin b ts ot cs vs.toArray).run P M.w = .ok (.value val) M'.w ∧ StepOk cfg.tab E M Ef val M' := by
  obtain ⟨ts⟩ := ts
  simp only [] at h
  unfold ZeN at h
  split at h
  · rename_i t x
    obtain ⟨v, rfl⟩ : ∃ v, vs = [v] := by have := hr.1; match vs, this with | [v], _ => exact ⟨v, rfl⟩
    have hx := hr.head.1
    obtain ⟨ty, l1, b1, l1', h1, h2, h3⟩ := Zi h
    cases h3
    obtain ⟨h1, -⟩ := Zt h1
    obtain ⟨h2a, h2b⟩ := Zv h2
    obtain ⟨y, l, h4, rfl⟩ := Zdx h2b
    simp only [lenTy, Bool.and_eq_true, Bool.not_eq_true'] at h2a
    obtain ⟨ha, hk⟩ := h2a
    have hu : ((∃ e, P.underlying t = some (.slice e)) ∨ P.underlying t = some .string) ∧ ((∃ l, x = .str l) ↔ P.underlying t = some .string) := by
      have hty := hT t ty h1
      by_cases hs : ∃ l, x = .str l
      · obtain ⟨l, rfl⟩ := hs
        have : ty.kinds = [.str] := by
          simp only [] at hk
          split at hk
          · assumption
          · cases hk
        exact ⟨.inr (hty.strs ha this), fun _ => hty.strs ha this, fun _ => ⟨l, rfl⟩⟩
      · have : ∃ e, ty.kinds = [.sl e] := by
          split at hk
          · exact absurd ⟨_, rfl⟩ hs
          · split at hk
            · exact ⟨_, ‹_›⟩
            · cases hk
        obtain ⟨e, he⟩ := this
        have hsl := hty.slice e ha he
        exact ⟨.inl ⟨e, hsl⟩, fun h => absurd h hs, fun h => by rw [hsl] at h; cases h⟩
    obtain ⟨v', hrun, hv⟩ := Zpv (ot := ot) (ts := #[t]) hM rfl hu.1 hu.2 hx h4
    exact ⟨M, v', Zbf hrun, .same hM hv⟩
  · rename_i t t2 s x
    obtain ⟨v, u, rfl⟩ : ∃ v u, vs = [v, u] := by have := hr.1; match vs, this with | [v, u], _ => exact ⟨v, u, rfl⟩
    obtain ⟨M', val, h1, h2⟩ := ZmF (ot := ot) hT hM (hn (ZoY h)) hr.head.1 hr.head.2.head.1 h
    exact ⟨M', val, Zbf h1, h2⟩
  · rename_i t t2 d s
    obtain ⟨v, u, rfl⟩ : ∃ v u, vs = [v, u] := by have := hr.1; match vs, this with | [v, u], _ => exact ⟨v, u, rfl⟩
    obtain ⟨M', val, h1, h2⟩ := ZoT (t2 := t2) (ot := ot) hT hM hr.head.1 hr.head.2.head.1 h
    exact ⟨M', val, Zbf h1, h2⟩
  · rename_i t d
    obtain ⟨v, rfl⟩ : ∃ v, vs = [v] := by have := hr.1; match vs, this with | [v], _ => exact ⟨v, rfl⟩
    obtain ⟨M', val, h1, h2⟩ := ZnK (ot := ot) hT hM hr.head.1 h
    exact ⟨M', val, Zbf h1, h2⟩
  · obtain ⟨v, u, rfl⟩ : ∃ v u, vs = [v, u] := by have := hr.1; match vs, this with | [v, u], _ => exact ⟨v, u, rfl⟩
    obtain ⟨-, h2⟩ := Zv h
    cases Zk h2
    have h1 := hr.head.1.int
    have h2 := hr.head.2.head.1.int
    subst h1 h2
    exact ⟨M, _, Zbf (by simp [Builtin.min_, Builtin.min2]), .same hM (.tree (.int _ _))⟩
  · obtain ⟨v, u, rfl⟩ : ∃ v u, vs = [v, u] := by have := hr.1; match vs, this with | [v, u], _ => exact ⟨v, u, rfl⟩
    obtain ⟨-, h2⟩ := Zv h
    cases Zk h2
    have h1 := hr.head.1.int
    have h2 := hr.head.2.head.1.int
    subst h1 h2
    exact ⟨M, _, Zbf (by simp [Builtin.max_, Builtin.max2]), .same hM (.tree (.int _ _))⟩
  · exact (Zl h).elim
theorem ZnP {tab : Tab} {E : Entry} {M : Mem} (hM : MemOk tab E M) {w' : World} (hk : KeptBut [] M.w w') : MemOk tab E { M with w := w' } ∧ MemLe E M { M with w := w' } := by
  refine hM.move (M' := { M with w := w' }) (fun _ => False) (fun _ _ => ⟨rfl, rfl, rfl, rfl⟩) (fun _ _ h => h) (fun g hg => hk.block g hg.2.1 (by simp)) (fun id _ g hg => hk.block g (hM.mine id g hg).2 (by simp))
    ⟨hk.os, hk.tape, hk.output, hk.size, fun g hg hn => absurd (List.mem_range.2 hg) hn⟩ (fun g hg _ => hk.block g (Nat.lt_of_lt_of_le hg hM.kept.size) (by simp)) (fun _ h => h.elim) (fun _ h => h.elim) (fun _ h => h.elim) (fun _ _ h => h.elim) (fun _ h => h.elim) (fun _ h => h.elim) (fun _ _ h => h.elim)
theorem ZjP (w : World) (t e g : Nat) (C : Array Value) (n c : Nat) (ht : P.underlying t = some (.slice e)) (he : P.underlying e = some (.int .u8)) (fr : Nat × Nat) (hg : w.heap[g]? = some (.cells C e fr)) :
    (convert t t (.slice (some ⟨g, 0, none⟩) n c)).run P w = .ok (.slice (some ⟨g, 0, none⟩) n c) (w.freeze ⟨g, C.size, none⟩ 1) := by
  have hsh : w.shape? g = some (e, C.size) := by simp [World.shape?, hg]
  simp [convert, run_underlying ht, run_underlying he, markStringish, shape, Sem.run, hsh, freeze]
  try rfl
theorem Zgx (w : World) (a : Addr) (n k : Nat) (h : k ≠ a.block) : (w.freeze a n).heap[k]? = w.heap[k]? := by
  unfold World.freeze
  split
  · rfl
  · simp [Array.getElem?_modify, h.symm]
theorem ZnQ (w : World) (a : Addr) (n : Nat) (b : Addr) : (w.freeze a n).cell? b = w.cell? b := by
  unfold World.freeze
  split
  · rfl
  · unfold World.cell?
    simp only [Array.getElem?_modify]
    by_cases hb : a.block = b.block
    · rw [if_pos hb]
      cases w.heap[b.block]? with
      | none => rfl
      | some o => cases o <;> rfl
    · rw [if_neg hb]
theorem ZmM {tab : Tab} (hT : Zx P tab) {E : Entry} {M : Mem} (hM : MemOk tab E M) {src dst id T : Nat} {xv : Value} {Ef : Eff} {log : List Nat} (hx : M.Rs tab E (.sl id T 0 none) xv) (h : Zid tab src dst id M.hp = some (Ef, log)) :
    ∃ M' val, (convert src dst xv).run P M.w = .ok val M'.w ∧ StepOk tab E M Ef val M' := by
  obtain ⟨s, l1, b1, l1', h1, h2, h3⟩ := Zi h
  obtain ⟨h1, -⟩ := Zt h1
  obtain ⟨e, l2, b2, l2', h4, h5, h6⟩ := Zi h2
  obtain ⟨h4, -⟩ := Zt h4
  obtain ⟨et, l3, b3, l3', h7, h8, h9⟩ := Zi h5
  obtain ⟨h7, -⟩ := Zt h7
  obtain ⟨blk, l4, b4, l4', h10, h11, h12⟩ := Zi h8
  obtain ⟨hb, -⟩ := ZaD h10
  cases blk with
  | box _ _ => exact (Zl h11).elim
  | drow _ _ => exact (Zl h11).elim
  | hrow _ _ _ _ _ => exact (Zl h11).elim
  | grow _ _ => exact (Zl h11).elim
  | row T' own els =>
    obtain ⟨h13, h14⟩ := Zv h11
    cases Zk h14
    cases h12; cases h9; cases h6; cases h3
    simp only [Bool.and_eq_true, Bool.not_eq_true', decide_eq_true_eq] at h13
    obtain ⟨a1, a2, a3, a4, rfl, a6⟩ := h13
    obtain rfl := Nat.eq_of_beq_eq_true a1
    have hs : s.kinds = [.sl T'] := by
      unfold Zkk at h4
      split at h4
      · cases h4; assumption
      · cases h4
    have hne : 0 < els.length := by
      cases els with
      | nil => simp at a6
      | cons _ _ => simp
    have hu := (hT src s h1).slice T' a2 hs
    have he := (hT T' et h7).int .u8 a3 a4
    obtain ⟨ty, a, a', cap, n, q1, q2, q3, q4, q5, q6, q7, rfl, q8, q9⟩ := hM.sl hx hb
    obtain rfl : et = ty := Option.some.inj (h7.symm.trans q1)
    obtain ⟨g, rfl, q10, q11⟩ := q9 hne
    obtain rfl := q7 rfl
    obtain rfl : n = els.length := by simpa using q4
    obtain ⟨ty2, v, xs, k1, k2, k3, k4, k5, k6, k7⟩ := hM.row hb
    obtain rfl : et = ty2 := Option.some.inj (h7.symm.trans k1)
    obtain rfl : v = .slice (some ⟨g, 0, none⟩) els.length cap := by rw [q2] at k2; cases k2; rfl
    obtain ⟨cur, fr, hg⟩ : ∃ (cur : Array Value) (fr : Nat × Nat), M.w.heap[g]? = some (.cells cur T' fr) := by
      rcases k3.2 with ⟨a, e1, h0⟩ | ⟨g', cap', cur, e1, _, hg, _⟩
      · omega
      · cases e1; obtain ⟨fr, hg, -⟩ := hg; exact ⟨cur, fr, hg⟩
    have hrun := ZjP (P := P) M.w src T' g cur els.length cap hu he fr hg
    have hgi : g ∈ M.top id := by rw [q10]; simp
    have hsz : (M.w.freeze ⟨g, cur.size, none⟩ 1).heap.size = M.w.heap.size := by simp [World.freeze]
    have main := hM.move (M' := { w := M.w.freeze ⟨g, cur.size, none⟩ 1, ρ := M.ρ, top := fun i => if i = id then [] else M.top i, nest := fun i => if i = id then [] else M.nest i, hp := fun i => if i = id then some none else M.hp i })
      (fun i => i = id) (fun i hi => by simp [hi]) (fun _ _ h => h) (fun g' hg' => Zgx _ _ _ _ (fun e => hg'.2.2 id (e ▸ hgi))) (fun i hi g' hg' => Zgx _ _ _ _ (fun e => hM.apart i id hi g' hg' (by rw [e]; exact List.mem_append_left _ hgi)))
      ⟨by simp [World.freeze], by simp [World.freeze], by simp [World.freeze], by rw [hsz]; exact Nat.le_refl _, fun g' hg' hn => absurd (List.mem_range.2 hg') hn⟩
      (fun g' hg' hF => Zgx _ _ _ _ fun e => by
        rcases hM.mineT id g hgi with h | h
        · exact hF (e ▸ h)
        · have e : g' = g := e
          omega)
      (fun i hi g' hg' => by subst hi; simp at hg') (fun i hi g' hg' => by subst hi; simp at hg') (fun i hi => by subst hi; simp) (fun i i' hi hi' hne => absurd (hi.trans hi'.symm) hne) (fun i hi g' hg' => by subst hi; simp at hg')
      (fun i hi => by subst hi; simp) (fun hle i hi b hbb => by subst hi; simp at hbb)
    obtain ⟨m1, m2⟩ := main
    refine ⟨_, _, hrun, m1, m2, ?_, .tree ?_⟩
    · funext i
      simp only [ZW]
    · refine .inl T' els et (some ⟨g, 0, none⟩) (cap - 0) g 0 (fun i j => xs.getD (i * et.kinds.length + j) undef) h7 (by omega) (fun _ => ⟨rfl, ?_⟩) k4 (fun i j hi hj => ?_) fun i j hi hj => (k7 i j hi hj).keep m2.ok m2.same
      · have := hM.mine id g (List.mem_append_left _ hgi)
        refine ⟨.inr this.1, by rw [hsz]; exact this.2, fun i hi => ?_⟩
        simp only at hi
        split at hi
        · simp at hi
        · rename_i hne; exact hM.apart i id hne g (List.mem_append_left _ hi) (List.mem_append_left _ hgi)
      · rw [ZnQ, Nat.zero_add]
        obtain ⟨g', cap', e1, _, _, hc⟩ := k3.cell (i * et.kinds.length + j) (ZbH hi hj)
        cases e1
        exact hc
theorem Zlr {tab : Tab} (hT : Zx P tab) {E : Entry} {M : Mem} (hM : MemOk tab E M) {src dst : TypeId} {l : List V} {xv : Value} {Ef : Eff} {log : List Nat} (hx : M.Rs tab E (.str l) xv) (h : ZjL tab src dst l M.hp = some (Ef, log)) :
    ∃ M' val, (convert src dst xv).run P M.w = .ok val M'.w ∧ StepOk tab E M Ef val M' := by
  obtain ⟨s, l1, b1, l1', h1, h2, h3⟩ := Zi h
  obtain ⟨h1, -⟩ := Zt h1
  obtain ⟨e, l2, b2, l2', h4, h5, h6⟩ := Zi h2
  obtain ⟨h4, -⟩ := Zt h4
  obtain ⟨et, l3, b3, l3', h7, h8, h9⟩ := Zi h5
  obtain ⟨h7, -⟩ := Zt h7
  obtain ⟨h10, h11⟩ := Zv h8
  cases Zk h11
  cases h9; cases h6; cases h3
  simp only [Bool.and_eq_true, Bool.not_eq_true', decide_eq_true_eq] at h10
  obtain ⟨a1, a2, a3, a4⟩ := h10
  obtain ⟨dty, h12, h13⟩ := Option.bind_eq_some_iff.1 h4
  obtain ⟨bs, rfl, rfl⟩ := hx.str
  have hs := (hT src s h1).strs a1 a2
  have hd := ((hT dst dty h12).elem e h13).1
  have he := (hT e et h7).int .u8 a3 a4
  have hrun := Go.Lib.run_convert_string_bytes (P := P) M.w src dst e bs hs hd he
  have hcap := grownCap_ge M.w bs.size 0 e
  have hk : KeptBut [] M.w (Go.Lib.bytesWorld M.w e bs) := ⟨rfl, rfl, rfl, by rw [Go.Lib.bytesWorld_size]; omega, fun g hg _ => Go.Lib.bytesWorld_at_old M.w e bs g hg⟩
  obtain ⟨m1, m2⟩ := ZnP hM hk
  have hlen : (Z6 bs).length = bs.size := by
    unfold Z6
    rw [List.length_map, Array.length_toList]; rfl
  have hget : ∀ i, i < bs.size → (Z6 bs).getD i .dead = .int .u8 ((bs.data.toList.getD i 0).toNat : Int) := fun i hi => by
    have : i < bs.data.toList.length := by rw [Array.length_toList]; exact hi
    unfold Z6
    simp only [List.getD, List.getElem?_map, List.getElem?_eq_getElem this, Option.map_some, Option.getD_some]
  refine ⟨_, _, hrun, m1, m2, rfl, .tree ?_⟩
  have := Rp.inl (tab := tab) (w := Go.Lib.bytesWorld M.w e bs) (ok := okS E { M with w := Go.Lib.bytesWorld M.w e bs }) e (Z6 bs) et (some ⟨M.w.heap.size, 0, none⟩) (grownCap M.w bs.size 0 e) M.w.heap.size 0
    (fun i _ => .int .u8 ((bs.data.toList.getD i 0).toNat : Int)) h7 (by rw [hlen]; omega) (fun _ => ⟨rfl, .inr (.inr hM.kept.size), by rw [Go.Lib.bytesWorld_size]; omega, fun id hid => by have := (hM.mine id _ (List.mem_append_left _ hid)).2; omega⟩)
    (fun i hi => by
      rw [hlen] at hi
      rw [hget i hi]
      refine ⟨by rw [a4]; rfl, fun hc => (by rw [a3] at hc; cases hc), fun _ cs hc => (by cases hc), fun j hj => ?_⟩
      rw [a4] at hj ⊢
      have : j = 0 := by simpa using hj
      subst this; rfl) (fun i j hi hj => by
      rw [hlen] at hi
      rw [a4] at hj ⊢
      have : j = 0 := by simpa using hj
      subst this
      have := Go.Lib.bytesWorld_cell M.w e bs i hi
      rw [show 0 + i * [Ck.int IntKind.u8].length + 0 = i from by simp]
      exact this) (fun i j hi hj => by
      rw [hlen] at hi
      rw [a4] at hj
      have : j = 0 := by simpa using hj
      subst this
      rw [hget i hi]
      exact .int _ _)
  rw [hlen] at this
  exact this
theorem Zmd {tab : Tab} {nid : Nat} {src dst : TypeId} {l : List V} {H : ZaC} {Ef : Eff} {log : List Nat} (h : ZgN tab nid src dst l H = some (Ef, log)) : nid ∈ Ef.upd.map (·.1) := by
  obtain ⟨s, l1, b1, l1', h1, h2, h3⟩ := Zi h
  obtain ⟨e, l2, b2, l2', h4, h5, h6⟩ := Zi h2
  obtain ⟨et, l3, b3, l3', h7, h8, h9⟩ := Zi h5
  obtain ⟨h10, h11⟩ := Zv h8
  obtain ⟨hroom, h11⟩ := Zv h11
  cases Zk h11
  cases h9; cases h6; cases h3
  simp
theorem ZkH {tab : Tab} (hT : Zx P tab) {E : Entry} {M : Mem} (hM : MemOk tab E M) {nid : Nat} (hn : nid ∈ [nid] → M.hp nid = none) {src dst : TypeId} {l : List V} {xv : Value} {Ef : Eff} {log : List Nat} (hx : M.Rs tab E (.str l) xv) (h : ZgN tab nid src dst l M.hp = some (Ef, log)) :
    ∃ M' val, (convert src dst xv).run P M.w = .ok val M'.w ∧ StepOk tab E M Ef val M' := by
  obtain ⟨s, l1, b1, l1', h1, h2, h3⟩ := Zi h
  obtain ⟨h1, -⟩ := Zt h1
  obtain ⟨e, l2, b2, l2', h4, h5, h6⟩ := Zi h2
  obtain ⟨h4, -⟩ := Zt h4
  obtain ⟨et, l3, b3, l3', h7, h8, h9⟩ := Zi h5
  obtain ⟨h7, -⟩ := Zt h7
  obtain ⟨h10, h11⟩ := Zv h8
  obtain ⟨hroom, h11⟩ := Zv h11
  cases Zk h11
  cases h9; cases h6; cases h3
  simp only [Bool.and_eq_true, Bool.not_eq_true', decide_eq_true_eq] at h10
  obtain ⟨a1, a2, a3, a4, a5⟩ := h10
  obtain rfl := Nat.eq_of_beq_eq_true a5
  obtain ⟨dty, h12, h13⟩ := Option.bind_eq_some_iff.1 h4
  have hx0 := hx
  obtain ⟨bs, rfl, rfl⟩ := hx.str
  have hs := (hT src s h1).strs a1 a2
  have hd := ((hT dst dty h12).elem ZbG h13).1
  have he := (hT ZbG et h7).int .u8 a3 a4
  have hrun := Go.Lib.run_convert_string_bytes (P := P) M.w src dst ZbG bs hs hd he
  have hcap := grownCap_ge M.w bs.size 0 ZbG
  have hlen : (Z6 bs).length = bs.size := by
    unfold Z6
    rw [List.length_map, Array.length_toList]; rfl
  have hr2 : bs.size ≤ 9223372036854775807 ∧ bs.size * 1 ≤ 140737488355328 := by
    rw [hlen] at hroom; simpa [Zw] using hroom
  have hcm : grownCap M.w bs.size 0 ZbG ≤ maxLen := grownCap_le_maxLen M.w bs.size 0 ZbG (by simp only [maxLen]; omega)
  have hflat : et.kinds.all Ck.flat = true := by rw [a4]; rfl
  have hk1 : et.kinds.length = 1 := by rw [a4]; rfl
  have hsl : ZeM ZbG et (.str (Z6 bs)) M.hp = some (Z6 bs, []) := by
    rw [rm_at]; simp [ZeM, RM.test, RM.ret, ZdP, a3, a4]
  obtain ⟨news, f1, f2, f3⟩ := Zd2 (P := P) hM h7 hx0 hsl
  have hnews : news = bs.data.toList.map fun b => .int .u8 (b.toNat : Int) := by
    have := f3 bs.size (by rw [hlen]; exact Nat.le_refl _) M.w fun _ _ => rfl
    have hnl : news.length = bs.size := by rw [f1.1, hlen, hk1, Nat.mul_one]
    rw [hk1, Nat.mul_one, ← hnl, List.take_length] at this
    simp only [Builtin.firstCells, Sem.run_pure, Result.ok.injEq, and_true] at this
    have h2 := congrArg Array.toList this
    simp only at h2
    rw [← h2, hnl]
    simp
  have hrow : RowIs (Go.Lib.bytesWorld M.w ZbG bs) ZbG et.kinds.length (Z6 bs).length (.slice (some ⟨M.w.heap.size, 0, none⟩) bs.size (grownCap M.w bs.size 0 ZbG)) news := by
    refine ⟨f1.1, ?_⟩
    by_cases h0 : grownCap M.w bs.size 0 ZbG = 0
    · have : bs.size = 0 := by omega
      rw [h0, this]
      exact .inl ⟨_, rfl, by rw [hlen]; exact this⟩
    · refine .inr ⟨M.w.heap.size, _, Go.Lib.bytesCells M.w ZbG bs, by rw [hlen], by omega, ⟨_, Go.Lib.bytesWorld_at_new M.w ZbG bs, .inr ⟨rfl, Nat.le_refl _⟩⟩, by rw [hlen]; exact hcap, hcm, ?_, ?_⟩
      · rw [hk1, Nat.mul_one]
        have : bs.data.size = bs.size := rfl
        simp only [Go.Lib.bytesCells, Array.size_append, Array.size_map, Array.size_replicate, this]; omega
      · rw [hlen, hk1, Nat.mul_one, hnews]
        have : bs.data.size = bs.size := rfl
        unfold Go.Lib.bytesCells
        rw [Array.toList_append, Array.toList_map, List.take_left' (by rw [List.length_map, Array.length_toList]; exact this)]
  obtain ⟨M', hw, hstep⟩ := ZhE (K := []) (Kt := []) hM (hn (by simp)) h7 (Elems.flat hflat f1) (by simp) hrow rfl rfl rfl (by rw [Go.Lib.bytesWorld_size]; omega) [] (by simp)
    (fun g hg _ => Go.Lib.bytesWorld_at_old M.w ZbG bs g hg) (fun g hg => .inr (by
      have e : g = M.w.heap.size := by
        generalize grownCap M.w bs.size 0 ZbG = c at hg
        cases c with
        | zero => simp [Zp] at hg
        | succ c => simpa [Zp] using hg
      omega)) (fun _ g hg => by simp) (by simp)
  exact ⟨M', _, by rw [hw]; exact hrun, hstep⟩
theorem ZpG {tab : Tab} {t : TypeId} {op : BinOp} {x y r : V} (h0 : Zhv op y = true) (h : binL tab t op x y = some r) : Zer tab t op x y = some r := by
  unfold binL at h
  split at h
  · rename_i k a k' b
    simp [Zhv] at h0
    simp only [Zer, divs]
    split at h
    · rename_i e; simp only [e, if_true, h0, if_false]; rw [← h, e]
    · cases h
  · rename_i k a k' b
    simp [Zhv] at h0
    simp only [Zer, divs]
    split at h
    · rename_i e; simp only [e, if_true, h0, if_false]; rw [← h, e]
    · cases h
  · rename_i k a k' b
    have : ¬ b < 0 := by simpa [Zhv] using h0
    simp only [Zer, Zj8, this, if_false]; exact h
  · rename_i k a k' b
    have : ¬ b < 0 := by simpa [Zhv] using h0
    simp only [Zer, Zj8, this, if_false]; exact h
  · exact h
theorem ZpH {tab : Tab} {w : World} {ok : Nat → Prop} {ρ : Nat → Option RB} (hT : Zx P tab) {op : BinOp} {t e : TypeId} {ox oy : Operand} {x r : V} {xv : Value} (he : (tab t).bind (·.elem) = some e) (hx : Rs tab w ok ρ x xv) (h : nilV op x = some r) :
    ∃ v, (do eqGuard op t ox oy xv (.slice none 0 0); binOp op t xv (.slice none 0 0) : Sem Value).run P w = .ok v w ∧ Rs tab w ok ρ r v := by
  obtain ⟨ty, h1, h2⟩ := Option.bind_eq_some_iff.1 he
  have hu := ((hT t ty h1).elem e h2).1
  have hg : ∀ a n c, (eqGuard op t ox oy (.slice a n c) (.slice none 0 0)).run P w = .ok () w := fun a n c => by unfold eqGuard; cases op <;> rfl
  have hq0 : ∀ d a n c, (Op.equalIn (d + 1) t (.slice a n c) (.slice none 0 0)).run P w = .ok a.isNone w := fun d a n c => by
    cases a <;> simp [Op.equalIn, run_underlying hu]
  have hq : ∀ a n c, (Op.equal t (.slice a n c) (.slice none 0 0)).run P w = .ok a.isNone w := fun a n c => hq0 9999 a n c
  unfold nilV at h
  split at h
  · cases h
    cases hx with | tree hx => cases hx with | nl T ty cap _ =>
    exact ⟨.bool true, by simp [hg, binOp, hq], .tree (.bool _)⟩
  · cases h
    cases hx with | tree hx => cases hx with | nn T l a n cap _ =>
    exact ⟨.bool false, by simp [hg, binOp, hq], .tree (.bool _)⟩
  · cases h
    cases hx with | tree hx => cases hx with | nl T ty cap _ =>
    exact ⟨.bool false, by simp [hg, binOp, hq], .tree (.bool _)⟩
  · cases h
    cases hx with | tree hx => cases hx with | nn T l a n cap _ =>
    exact ⟨.bool true, by simp [hg, binOp, hq], .tree (.bool _)⟩
  · cases h
end
end Go.Eng
namespace Go.Eng
section
variable {P : Program} {tab : Tab}
theorem ZkI {T : TypeId} {ty : Ty} (hty : TyOk P tab T ty) {l : List V} (hsh : ∀ i, i < l.length → ZbQ ty (l.getD i .dead)) {idx off : Nat} (hi : idx < l.length) {cs : List V}
    (hfit : off + cs.length ≤ ty.kinds.length) (hk : ∀ j, j < cs.length → kindOk (ty.kinds.getD (off + j) .other) (cs.getD j .dead)) :
    (∀ i, i < l.length → ZbQ ty ((l.set idx (Eng.mk ty.agg (Z5 (ZV ty.kinds (l.getD idx .dead)) off cs))).getD i .dead)) ∧
    ∀ i j, ((l.set idx (Eng.mk ty.agg (Z5 (ZV ty.kinds (l.getD idx .dead)) off cs))).getD i .dead).cell j =
      if i = idx ∧ off ≤ j ∧ j < off + cs.length then cs.getD (j - off) .dead else (l.getD i .dead).cell j := by
  have hrc : ZV ty.kinds (l.getD idx .dead) = (l.getD idx .dead).cells := ZfI (hsh idx hi)
  have hrl : (ZV ty.kinds (l.getD idx .dead)).length = ty.kinds.length := ZaU _ _ _
  have hsl : (Z5 (ZV ty.kinds (l.getD idx .dead)) off cs).length = ty.kinds.length := by rw [ZcH _ _ _ (by omega), hrl]
  have hsg : ∀ j, (Z5 (ZV ty.kinds (l.getD idx .dead)) off cs).getD j .dead = if off ≤ j ∧ j < off + cs.length then cs.getD (j - off) .dead else (l.getD idx .dead).cell j := by
    intro j
    have := ZbY (ZV ty.kinds (l.getD idx .dead)) cs off j .dead (by omega)
    unfold Z5; rw [this, hrc]; rfl
  have hkk : ∀ j, j < ty.kinds.length → kindOk (ty.kinds.getD j .other) ((Z5 (ZV ty.kinds (l.getD idx .dead)) off cs).getD j .dead) := by
    intro j hj
    rw [hsg]
    by_cases hc : off ≤ j ∧ j < off + cs.length
    · rw [if_pos hc]
      have := hk (j - off) (by omega)
      rwa [show off + (j - off) = j from by omega] at this
    · rw [if_neg hc]; exact (hsh idx hi).2.2.2 j hj
  obtain ⟨hshape, hcells⟩ := ZhF hty hsl hkk
  have hget : ∀ i, (l.set idx (Eng.mk ty.agg (Z5 (ZV ty.kinds (l.getD idx .dead)) off cs))).getD i .dead = if i = idx then Eng.mk ty.agg (Z5 (ZV ty.kinds (l.getD idx .dead)) off cs) else l.getD i .dead := by
    intro i
    by_cases e : i = idx
    · subst e; simp [List.getD, hi]
    · simp [List.getD, e, Ne.symm e]
  refine ⟨fun i hi' => ?_, fun i j => ?_⟩
  · rw [hget]
    split
    · exact hshape
    · exact hsh i hi'
  · rw [hget]
    by_cases e : i = idx
    · subst e
      rw [if_pos rfl, V.cell, hcells, hsg]
      by_cases hc : off ≤ j ∧ j < off + cs.length
      · rw [if_pos hc, if_pos ⟨rfl, hc⟩]
      · rw [if_neg hc, if_neg fun h => hc h.2]
    · rw [if_neg e, if_neg fun h => e h.1]
theorem Ro.sl_inv {w : World} {e : TypeId} {x : V} {v : Value} {F : List Nat} (h : Ro tab w x v F) (hk : kindOk (.sl e) x) :
    ∃ l ty xs G, x = .inl e l ∧ tab e = some ty ∧ RowIs w e ty.kinds.length l.length v xs ∧ (∀ i, i < l.length → ZbQ ty (l.getD i .dead)) ∧
      (∀ i j, i < l.length → j < ty.kinds.length → Ro tab w ((l.getD i .dead).cell j) (xs.getD (i * ty.kinds.length + j) undef) (G i j)) ∧ F = Zp v ++ Zz l.length ty.kinds.length G := by
  cases h with
  | int => simp [kindOk] at hk
  | bool => simp [kindOk] at hk
  | str => simp [kindOk] at hk
  | inl T l ty v xs G h1 h2 h3 h4 =>
    simp only [kindOk] at hk
    subst hk
    exact ⟨l, ty, xs, G, rfl, h1, h2, h3, h4, rfl⟩
theorem Ro.flat_inv {w : World} {k : Ck} {x : V} {v : Value} {F : List Nat} (h : Ro tab w x v F) (hk : kindOk k x) (hf : k.flat = true) : F = [] ∧ ∀ ok, Rp tab w ok x v := by
  cases h with
  | int k n => exact ⟨rfl, fun _ => .int _ _⟩
  | bool b => exact ⟨rfl, fun _ => .bool _⟩
  | str l s h => exact ⟨rfl, fun _ => .str _ _ h⟩
  | inl T l ty v xs G h1 h2 h3 h4 => cases k <;> simp [kindOk, Ck.flat] at hk hf
theorem Zg5 {n m : Nat} {F G : Nat → Nat → List Nat} {idx off : Nat} (h : ∀ i j, (i ≠ idx ∨ j ≠ off) → F i j = G i j) {g : Nat} (hg : g ∈ Zz n m F) : g ∈ Zz n m G ∨ (g ∈ F idx off ∧ idx < n ∧ off < m) := by
  obtain ⟨i, hi, j, hj, hg⟩ := mem_flatF.1 hg
  by_cases e : i = idx ∧ j = off
  · obtain ⟨rfl, rfl⟩ := e
    exact .inr ⟨hg, hi, hj⟩
  · refine .inl (mem_flatF.2 ⟨i, hi, j, hj, ?_⟩)
    rwa [← h i j (by by_cases e1 : i = idx; exact .inr fun e2 => e ⟨e1, e2⟩; exact .inl e1)]
theorem ZfV {hp : ZaC} {id j : Nat} {b : Blk} (i : Nat) : ZW hp [(j, none), (id, some b)] i = if i = id then some (some b) else if i = j then some none else hp i := by
  simp [ZW]
theorem Ziq {hp : ZaC} {id j : Nat} {b c : Blk} (i : Nat) : ZW hp [(j, some c), (id, some b)] i = if i = id then some (some b) else if i = j then some (some c) else hp i := by
  simp [ZW]
theorem ZmN (hT : Zx P tab) {E : Entry} {M : Mem} (hM : MemOk tab E M) {id j idx off : Nat} {T T' : TypeId} {els l : List V} {ty : Ty} (ht : tab T = some ty)
    (hb : M.hp id = some (some (.hrow T els idx off j))) (hj : M.hp j = some (some (.drow T' l))) (hne : j ≠ id) :
    ∃ M', M'.w = M.w ∧ M'.ρ = M.ρ ∧ MemOk tab E M' ∧ MemLe E M M' ∧ M'.hp = ZW M.hp [(j, none), (id, some (.drow T (Zef ty.kinds ty.agg els idx off (.inl T' l))))] := by
  obtain ⟨ty1, v, xs, F, e, ty2, N, h1, h2, h3, h4, h5, h6, h7, h8, h9, h10, h11, h12, h13⟩ := hM.blocks id _ hb
  obtain rfl : ty = ty1 := Option.some.inj (ht.symm.trans h1)
  obtain ⟨ty3, vj, xsj, Fj, k1, k2, k3, k4, k5, k6, k7, k8⟩ := hM.drow hj
  have hrb := k2.symm.trans h9
  simp only [Option.some.injEq, RB.row.injEq] at hrb
  obtain ⟨rfl, -, rfl, hvj⟩ := hrb
  have hro : Ro tab M.w (.inl T' l) (xs.getD (idx * ty.kinds.length + off) undef) (M.top j) := by
    rw [k6, ← hvj]; exact .inl T' l ty3 vj xsj Fj k1 k3 k4 k5
  obtain ⟨s1, s2⟩ := ZkI (hT T ty ht) h4 h5 (off := off) (cs := [.inl T' l]) (by simp only [List.length_singleton]; omega) (fun j hj => by
    obtain rfl : j = 0 := by simpa using hj
    rw [Nat.add_zero, h7]; rfl)
  let G : Nat → Nat → List Nat := fun i k => if i = idx ∧ k = off then M.top j else F i k
  have hG : ∀ i k, (i ≠ idx ∨ k ≠ off) → G i k = F i k := fun i k h => if_neg fun h' => by rcases h with h | h; exact h h'.1; exact h h'.2
  have hG0 : G idx off = M.top j := if_pos ⟨rfl, rfl⟩
  let M' : Mem := { w := M.w, ρ := M.ρ, top := fun i => if i = id then Zp v ++ Zz els.length ty.kinds.length G else if i = j then [] else M.top i, nest := M.nest, hp := ZW M.hp [(j, none), (id, some (.drow T (Zef ty.kinds ty.agg els idx off (.inl T' l))))] }
  have htid : M'.top id = Zp v ++ Zz els.length ty.kinds.length G := if_pos rfl
  have htj : M'.top j = [] := by show (if j = id then _ else if j = j then [] else M.top j) = []; rw [if_neg hne, if_pos rfl]
  have hmem : ∀ g, g ∈ Zp v ++ Zz els.length ty.kinds.length G → g ∈ M.top id ∨ g ∈ M.top j := by
    intro g hg
    rcases List.mem_append.1 hg with hg | hg
    · exact .inl (by rw [h12]; exact List.mem_append_left _ hg)
    · rcases Zg5 hG hg with hg | ⟨hg, -, -⟩
      · exact .inl (by rw [h12]; exact List.mem_append_right _ hg)
      · exact .inr (by rwa [hG0] at hg)
  have hlen : (Zef ty.kinds ty.agg els idx off (.inl T' l)).length = els.length := List.length_set
  have hnid := hM.nodup id
  rw [h12, h13, List.append_nil] at hnid
  obtain ⟨n1, n2, n3⟩ := List.nodup_append.1 hnid
  obtain ⟨c1, c2⟩ := nodup_flatF.1 n2
  have hap : ∀ g, g ∈ M.top j → g ∉ M.top id := fun g hg hg' => hM.apart j id hne g (List.mem_append_left _ hg) (List.mem_append_left _ hg')
  have hnj : (M.top j).Nodup := (List.nodup_append.1 (hM.nodup j)).1
  have hpid : M'.hp id = some (some (.drow T (Zef ty.kinds ty.agg els idx off (.inl T' l)))) := by show ZW _ _ _ = _; rw [ZfV, if_pos rfl]
  have hpj : M'.hp j = some none := by show ZW _ _ _ = _; rw [ZfV, if_neg hne, if_pos rfl]
  have hmv := hM.move (M' := M') (fun i => i = id ∨ i = j) (fun i hi => ?_) (fun _ _ h => h) (fun _ _ => rfl) (fun _ _ _ _ => rfl) (KeptBut.refl _ _) (fun _ _ _ => rfl)
    (fun i hi g hg => ?_) (fun i hi g hg => ?_) (fun i hi => ?_) (fun i i' hi hi' hne' g hg => ?_) (fun i hi g hg => ?_) (fun i hi => ?_) (fun hle i hi b hb' => ?_)
  · exact ⟨M', rfl, rfl, hmv.1, hmv.2, rfl⟩
  · have e1 : i ≠ id := fun e => hi (.inl e)
    have e2 : i ≠ j := fun e => hi (.inr e)
    refine ⟨rfl, ?_, rfl, ?_⟩
    · show (if i = id then _ else if i = j then [] else M.top i) = _
      rw [if_neg e1, if_neg e2]
    · show ZW _ _ _ = _
      rw [ZfV, if_neg e1, if_neg e2]
  · rcases hi with rfl | rfl
    · rw [htid] at hg
      rcases hmem g hg with h | h
      · exact .inl ⟨i, .inl rfl, h⟩
      · exact .inl ⟨j, .inr rfl, h⟩
    · rw [htj] at hg; cases hg
  · exact .inl ⟨i, hi, List.mem_append_right _ hg⟩
  · rcases hi with rfl | rfl
    · rw [htid]
      show (_ ++ M.nest i).Nodup
      rw [h13, List.append_nil]
      refine List.nodup_append.2 ⟨n1, nodup_flatF.2 ⟨fun a b ha hb' => ?_, fun a b a' b' ha hb1 ha' hb2 hne' g hg hg' => ?_⟩, fun a ha b hb' e => ?_⟩
      · by_cases e : a = idx ∧ b = off
        · obtain ⟨rfl, rfl⟩ := e; rw [hG0]; exact hnj
        · rw [show G a b = F a b from if_neg e]; exact c1 a b ha hb'
      · by_cases e : a = idx ∧ b = off <;> by_cases e' : a' = idx ∧ b' = off
        · obtain ⟨rfl, rfl⟩ := e; obtain ⟨rfl, rfl⟩ := e'
          rcases hne' with h | h <;> exact h rfl
        · obtain ⟨rfl, rfl⟩ := e
          rw [hG0] at hg
          rw [show G a' b' = F a' b' from if_neg e'] at hg'
          exact hap g hg (by rw [h12]; exact List.mem_append_right _ (mem_flatF.2 ⟨a', ha', b', hb2, hg'⟩))
        · obtain ⟨rfl, rfl⟩ := e'
          rw [hG0] at hg'
          rw [show G a b = F a b from if_neg e] at hg
          exact hap g hg' (by rw [h12]; exact List.mem_append_right _ (mem_flatF.2 ⟨a, ha, b, hb1, hg⟩))
        · rw [show G a b = F a b from if_neg e] at hg
          rw [show G a' b' = F a' b' from if_neg e'] at hg'
          exact c2 a b a' b' ha hb1 ha' hb2 hne' g hg hg'
      · subst e
        rcases Zg5 hG hb' with hg | ⟨hg, -, -⟩
        · exact n3 a ha a hg rfl
        · rw [hG0] at hg
          exact hap a hg (by rw [h12]; exact List.mem_append_left _ ha)
    · rw [htj]
      show ([] ++ M.nest i).Nodup
      rw [k7]; simp
  · rcases hi with rfl | rfl
    · rcases hi' with rfl | rfl
      · exact absurd rfl hne'
      · rw [htj]; show _ ∉ [] ++ M.nest i'; rw [k7]; simp
    · rw [htj] at hg
      have hg : g ∈ [] ++ M.nest i := hg
      rw [k7] at hg; simp at hg
  · rcases hi with rfl | rfl
    · rw [htid] at hg
      rcases List.mem_append.1 hg with hg | hg
      · rcases hmem g hg with h | h
        · exact (hM.mine i g (List.mem_append_left _ h)).2
        · exact (hM.mine j g (List.mem_append_left _ h)).2
      · exact (hM.mine i g (List.mem_append_right _ hg)).2
    · rw [htj] at hg
      exact (hM.mine i g (List.mem_append_right _ hg)).2
  · rcases hi with rfl | rfl
    · rw [hpid]; exact ⟨fun h => (by cases h), fun h => (by cases h)⟩
    · rw [hpj]; exact ⟨fun h => (by cases h), fun _ => ⟨htj, k7⟩⟩
  · rcases hi with rfl | rfl
    · rw [hpid] at hb'
      cases hb'
      refine ⟨ty, v, Zz els.length ty.kinds.length G, ht, by rw [hlen]; exact h2, ⟨ty, xs, ht, by rw [hlen]; exact h3, fun i hi => s1 i (by rwa [hlen] at hi), .inl ⟨rfl, G, by rw [hlen], fun a b ha hb' => ?_⟩⟩, htid, h13⟩
      rw [hlen] at ha
      unfold Zef
      rw [s2]
      by_cases e : a = idx ∧ b = off
      · obtain ⟨rfl, rfl⟩ := e
        rw [if_pos ⟨rfl, Nat.le_refl _, by simp⟩, Nat.sub_self, hG0]
        exact hro
      · rw [if_neg (fun h => e ⟨h.1, by have := h.2.2; simp at this; omega⟩), show G a b = F a b from if_neg e]
        exact h11 a b ha hb' (by by_cases e1 : a = idx; exact .inr fun e2 => e ⟨e1, e2⟩; exact .inl e1)
    · rw [hpj] at hb'; cases hb'
theorem RowIs.sl0 {w : World} {ok : Nat → Prop} {ρ : Nat → Option RB} {T : TypeId} {sz N : Nat} {v : Value} {xs : List Value} {id : Nat} (h : RowIs w T sz N v xs) (hρ : ρ id = some (.row T sz N v)) : Rs tab w ok ρ (.sl id T 0 none) v := by
  rcases h.2 with ⟨a, rfl, rfl⟩ | ⟨g, cap, cur, rfl, hc, hg, hN, r⟩
  · exact .sl id T 0 none sz 0 a a 0 0 hρ (Nat.le_refl _) rfl (by simp) (fun h => absurd h (by simp)) (fun _ => rfl)
  · exact .sl id T 0 none sz N _ _ cap N hρ hN rfl (by simp) (fun _ => by simp [ZcG]) (fun _ => rfl)
theorem open_mem (hT : Zx P tab) {E : Entry} {M : Mem} (hM : MemOk tab E M) {id nid idx off : Nat} {T e : TypeId} {els : List V} {ty : Ty} (ht : tab T = some ty)
    (hb : M.hp id = some (some (.drow T els))) (hn : M.hp nid = none) (hi : idx < els.length) (hk : ty.kinds[off]? = some (.sl e)) :
    ∃ M' v xs, M'.w = M.w ∧ MemOk tab E M' ∧ MemLe E M M' ∧ M'.hp = ZW M.hp [(nid, some (.drow e ((els.getD idx .dead).cell off).L)), (id, some (.hrow T els idx off nid))] ∧
      M.ρ id = some (.row T ty.kinds.length els.length v) ∧ RowIs M.w T ty.kinds.length els.length v xs ∧ M'.Rs tab E (.sl nid e 0 none) (xs.getD (idx * ty.kinds.length + off) undef) := by
  obtain ⟨ty1, v, xs, F, h1, h2, h3, h4, h5, h12, h13, -⟩ := hM.drow hb
  obtain rfl : ty = ty1 := Option.some.inj (ht.symm.trans h1)
  have hoff : off < ty.kinds.length := (List.getElem?_eq_some_iff.1 hk).1
  have hkd : ty.kinds.getD off .other = .sl e := by simp [List.getD, hk]
  have hro := h5 idx off hi hoff
  have hkind := (h4 idx hi).2.2.2 off hoff
  rw [hkd] at hkind
  obtain ⟨l, ty2, ys, G2, hx, k1, k3, k4, k5, hF⟩ := hro.sl_inv hkind
  have hne : nid ≠ id := fun e => by rw [e, hb] at hn; cases hn
  obtain ⟨hfρ, hft, hfn⟩ := hM.fresh nid hn
  let G : Nat → Nat → List Nat := fun i k => if i = idx ∧ k = off then [] else F i k
  have hG : ∀ i k, (i ≠ idx ∨ k ≠ off) → G i k = F i k := fun i k h => if_neg fun h' => by rcases h with h | h; exact h h'.1; exact h h'.2
  have hG0 : G idx off = [] := if_pos ⟨rfl, rfl⟩
  let M' : Mem := { w := M.w, ρ := fun i => if i = nid then some (.row e ty2.kinds.length l.length (xs.getD (idx * ty.kinds.length + off) undef)) else M.ρ i
                    top := fun i => if i = id then Zp v ++ Zz els.length ty.kinds.length G else if i = nid then F idx off else M.top i, nest := M.nest
                    hp := ZW M.hp [(nid, some (.drow e ((els.getD idx .dead).cell off).L)), (id, some (.hrow T els idx off nid))] }
  have htid : M'.top id = Zp v ++ Zz els.length ty.kinds.length G := if_pos rfl
  have htj : M'.top nid = F idx off := by show (if nid = id then _ else if nid = nid then F idx off else M.top nid) = _; rw [if_neg hne, if_pos rfl]
  have hρn : M'.ρ nid = some (.row e ty2.kinds.length l.length (xs.getD (idx * ty.kinds.length + off) undef)) := if_pos rfl
  have hρi : ∀ i rb, M.ρ i = some rb → M'.ρ i = some rb := fun i rb h => by
    show (if i = nid then _ else M.ρ i) = _
    rw [if_neg (fun e => by rw [e, hfρ] at h; cases h)]; exact h
  have hpid : M'.hp id = some (some (.hrow T els idx off nid)) := by show ZW _ _ _ = _; rw [Ziq, if_pos rfl]
  have hpj : M'.hp nid = some (some (.drow e ((els.getD idx .dead).cell off).L)) := by show ZW _ _ _ = _; rw [Ziq, if_neg hne, if_pos rfl]
  have hFin : ∀ g ∈ F idx off, g ∈ Zz els.length ty.kinds.length F := fun g hg => mem_flatF.2 ⟨idx, hi, off, hoff, hg⟩
  have hGin : ∀ g ∈ Zz els.length ty.kinds.length G, g ∈ Zz els.length ty.kinds.length F := fun g hg => by
    rcases Zg5 hG hg with hg | ⟨hg, -, -⟩
    · exact hg
    · rw [hG0] at hg; cases hg
  have hsub : ∀ g, g ∈ Zp v ++ Zz els.length ty.kinds.length G → g ∈ M.top id := fun g hg => by
    rw [h12]
    rcases List.mem_append.1 hg with hg | hg
    · exact List.mem_append_left _ hg
    · exact List.mem_append_right _ (hGin g hg)
  have hsubF : ∀ g ∈ F idx off, g ∈ M.top id := fun g hg => by rw [h12]; exact List.mem_append_right _ (hFin g hg)
  have hnd := hM.nodup id
  rw [h12, h13, List.append_nil] at hnd
  obtain ⟨n1, n2, n3⟩ := List.nodup_append.1 hnd
  obtain ⟨c1, c2⟩ := nodup_flatF.1 n2
  have hsep : ∀ g, g ∈ Zp v ++ Zz els.length ty.kinds.length G → g ∈ F idx off → False := fun g hg hgF => by
    rcases List.mem_append.1 hg with hg | hg
    · exact n3 g hg g (hFin g hgF) rfl
    · obtain ⟨a, ha, b, hb', hg⟩ := mem_flatF.1 hg
      by_cases e : a = idx ∧ b = off
      · obtain ⟨rfl, rfl⟩ := e; rw [hG0] at hg; cases hg
      · rw [show G a b = F a b from if_neg e] at hg
        exact c2 a b idx off ha hb' hi hoff (by by_cases e1 : a = idx; exact .inr fun e2 => e ⟨e1, e2⟩; exact .inl e1) g hg hgF
  have hmv := hM.move (M' := M') (fun i => i = id ∨ i = nid) (fun i hi => ?_) hρi (fun _ _ => rfl) (fun _ _ _ _ => rfl) (KeptBut.refl _ _) (fun _ _ _ => rfl)
    (fun i hi g hg => ?_) (fun i hi g hg => ?_) (fun i hi => ?_) (fun i i' hi hi' hne' g hg => ?_) (fun i hi g hg => ?_) (fun i hi => ?_) (fun hle i hi b hb' => ?_)
  · exact ⟨M', v, xs, rfl, hmv.1, hmv.2, rfl, h2, h3, RowIs.sl0 (w := M.w) k3 hρn⟩
  · have e1 : i ≠ id := fun e => hi (.inl e)
    have e2 : i ≠ nid := fun e => hi (.inr e)
    refine ⟨?_, ?_, rfl, ?_⟩
    · show (if i = nid then _ else M.ρ i) = _
      rw [if_neg e2]
    · show (if i = id then _ else if i = nid then _ else M.top i) = _
      rw [if_neg e1, if_neg e2]
    · show ZW _ _ _ = _
      rw [Ziq, if_neg e1, if_neg e2]
  · rcases hi with rfl | rfl
    · rw [htid] at hg; exact .inl ⟨i, .inl rfl, hsub g hg⟩
    · rw [htj] at hg; exact .inl ⟨id, .inl rfl, hsubF g hg⟩
  · exact .inl ⟨i, hi, List.mem_append_right _ hg⟩
  · rcases hi with rfl | rfl
    · rw [htid]
      show (_ ++ M.nest i).Nodup
      rw [h13, List.append_nil]
      refine List.nodup_append.2 ⟨n1, nodup_flatF.2 ⟨fun a b ha hb' => ?_, fun a b a' b' ha hb1 ha' hb2 hne' g hg hg' => ?_⟩, fun a ha b hb' => n3 a ha b (hGin b hb')⟩
      · by_cases e : a = idx ∧ b = off
        · obtain ⟨rfl, rfl⟩ := e; rw [hG0]; exact .nil
        · rw [show G a b = F a b from if_neg e]; exact c1 a b ha hb'
      · have key : ∀ a b g, g ∈ G a b → g ∈ F a b := fun a b g hg => by
          by_cases e : a = idx ∧ b = off
          · rw [show G a b = [] from if_pos e] at hg; cases hg
          · rwa [show G a b = F a b from if_neg e] at hg
        exact c2 a b a' b' ha hb1 ha' hb2 hne' g (key _ _ _ hg) (key _ _ _ hg')
    · rw [htj]
      show (_ ++ M.nest i).Nodup
      rw [hfn, List.append_nil]
      exact c1 idx off hi hoff
  · have hnn : ∀ i, i = id ∨ i = nid → M'.nest i = [] := fun i hi => by rcases hi with rfl | rfl; exact h13; exact hfn
    rw [hnn i hi, List.append_nil] at hg
    rw [hnn i' hi', List.append_nil]
    rcases hi with rfl | rfl <;> rcases hi' with rfl | rfl
    · exact absurd rfl hne'
    · rw [htid] at hg; rw [htj]; exact fun h => hsep g hg h
    · rw [htj] at hg; rw [htid]; exact fun h => hsep g h hg
    · exact absurd rfl hne'
  · rcases hi with rfl | rfl
    · rw [htid] at hg
      rcases List.mem_append.1 hg with hg | hg
      · exact (hM.mine i g (List.mem_append_left _ (hsub g hg))).2
      · exact (hM.mine i g (List.mem_append_right _ hg)).2
    · rw [htj] at hg
      rcases List.mem_append.1 hg with hg | hg
      · exact (hM.mine id g (List.mem_append_left _ (hsubF g hg))).2
      · exact (hM.mine i g (List.mem_append_right _ hg)).2
  · rcases hi with rfl | rfl
    · rw [hpid]; exact ⟨fun h => (by cases h), fun h => (by cases h)⟩
    · rw [hpj]; exact ⟨fun h => (by cases h), fun h => (by cases h)⟩
  · rcases hi with rfl | rfl
    · rw [hpid] at hb'
      cases hb'
      refine ⟨ty, v, xs, G, e, ty2, l.length, ht, hρi _ _ h2, h3, h4, ‹_›, hoff, hkd, k1, hρn, hG0, fun a b ha hb' hne' => ?_, htid, h13⟩
      rw [hG a b hne']; exact h5 a b ha hb'
    · rw [hpj] at hb'
      cases hb'
      rw [hx]
      refine ⟨ty2, xs.getD (idx * ty.kinds.length + off) undef, Zz l.length ty2.kinds.length G2, k1, hρn, ⟨ty2, ys, k1, k3, k4, .inl ⟨rfl, G2, rfl, k5⟩⟩, ?_, hfn⟩
      rw [htj]; exact hF
end
end Go.Eng
namespace Go.Eng
section
variable {P : Program} {tab : Tab}
theorem rm_on {α : Type} {u : List (Nat × Option Blk)} {m : RM α} {h : ZaC} {r : α × List Nat} (e : RM.on u m h = some r) : m (ZW h u) = some r := e
theorem Zjs (hT : Zx P tab) {E : Entry} {M : Mem} (hM : MemOk tab E M) {id : Nat} {u : List (Nat × Option Blk)} {log : List Nat} (h : Zkl tab id M.hp = some (u, log)) :
    ∃ M', M'.w = M.w ∧ M'.ρ = M.ρ ∧ MemOk tab E M' ∧ MemLe E M M' ∧ M'.hp = ZW M.hp u ∧ ∀ i, M.hp i = none → M'.hp i = none := by
  obtain ⟨b, l1, b1, l1', h1, h2, h3⟩ := Zi h
  obtain ⟨h1, -⟩ := ZaD h1
  have stay : RM.ret ([] : List (Nat × Option Blk)) M.hp = some (b1, l1') → ∃ M', M'.w = M.w ∧ M'.ρ = M.ρ ∧ MemOk tab E M' ∧ MemLe E M M' ∧ M'.hp = ZW M.hp u ∧ ∀ i, M.hp i = none → M'.hp i = none := fun h => by
    cases Zk h
    cases h3
    exact ⟨M, rfl, rfl, hM, .refl E M, rfl, fun _ h => h⟩
  cases b with
  | box T cs => exact stay h2
  | row T own els => exact stay h2
  | drow T els => exact stay h2
  | grow _ _ => exact stay h2
  | hrow T els idx off j =>
    obtain ⟨ty, l2, b2, l2', h4, h5, h6⟩ := Zi h2
    obtain ⟨h4, -⟩ := Zt h4
    obtain ⟨c, l3, b3, l3', h7, h8, h9⟩ := Zi h5
    obtain ⟨h7, -⟩ := ZaD h7
    cases c with
    | box T cs => exact (Zl h8).elim
    | row T own els => exact (Zl h8).elim
    | hrow _ _ _ _ _ => exact (Zl h8).elim
    | grow _ _ => exact (Zl h8).elim
    | drow T' l =>
      obtain ⟨h10, h11⟩ := Zv h8
      cases Zk h11
      cases h9; cases h6; cases h3
      obtain ⟨M', r1, r2, r3, r4, r5⟩ := ZmN hT hM h4 h1 h7 (by simpa using h10)
      refine ⟨M', r1, r2, r3, r4, r5, fun i hi => ?_⟩
      rw [r5, ZfV, if_neg (fun e => by rw [e, h1] at hi; cases hi), if_neg (fun e => by rw [e, h7] at hi; cases hi)]
      exact hi
theorem StepOk.behind {E : Entry} {M M1 : Mem} (h1 : MemLe E M M1) {u : List (Nat × Option Blk)} (hu : M1.hp = ZW M.hp u) {v : V} {w : List (Nat × Option Blk)} {val : Value} {M' : Mem} (h : StepOk tab E M1 ⟨v, w⟩ val M') : StepOk tab E M ⟨v, u ++ w⟩ val M' :=
  ⟨h.mem, h1.trans h.le, by rw [h.hp, Zjr, hu], h.val⟩
theorem Zol {ks : List Ck} {off n : Nat} (h : ((ks.drop off).take n).all Ck.flat = true) {j : Nat} (hj : j < n) (hk : off + j < ks.length) : (ks.getD (off + j) .other).flat = true := by
  rw [List.all_eq_true] at h
  refine h _ (List.mem_iff_getElem?.2 ⟨j, ?_⟩)
  rw [List.getElem?_take, if_pos hj, List.getElem?_drop, List.getD, List.getElem?_eq_getElem hk]; rfl
theorem Zls (hT : Zx P tab) {E : Entry} {M : Mem} (hM : MemOk tab E M) {t : TypeId} {ty : Ty} (ht : tab t = some ty) {id idx off : Nat} {T : TypeId} {els : List V} {tyT : Ty} (htT : tab T = some tyT) {pv : Value}
    (hb : M.hp id = some (some (.drow T els))) (hp : M.Rs tab E (.rp id idx off) pv) (hf : ((tyT.kinds.drop off).take ty.kinds.length).all Ck.flat = true) {x : V} (hx : Ze3 ty (Zar tyT.kinds (els.getD idx .dead) 0) off = some x) :
    ∃ v, (Instr.loadAt t pv).run P M.w = .ok v M.w ∧ M.Rs tab E x v := by
  obtain ⟨ty2, v, xs, F, k1, k2, k3, k4, k5, k6, k7, -⟩ := hM.drow hb
  obtain rfl : tyT = ty2 := Option.some.inj (htT.symm.trans k1)
  cases hp with
  | tree hp => cases hp
  | rp _ _ _ T' sz N g cap hg hi =>
    have e := k2.symm.trans hg
    simp only [Option.some.injEq, RB.row.injEq] at e
    obtain ⟨rfl, rfl, rfl, rfl⟩ := e
    obtain ⟨x1, x2, rfl⟩ := Zhy hx
    rw [ZaU] at x1
    have hxs : xs.length = els.length * tyT.kinds.length := k3.1
    have hle : idx * tyT.kinds.length + tyT.kinds.length ≤ els.length * tyT.kinds.length := by
      have : (idx + 1) * tyT.kinds.length ≤ els.length * tyT.kinds.length := Nat.mul_le_mul_right _ hi
      rwa [Nat.add_mul, Nat.one_mul] at this
    have hvl : ((xs.drop (idx * tyT.kinds.length + off)).take ty.kinds.length).length = ty.kinds.length := by simp; omega
    have hcl : (((Zar tyT.kinds (els.getD idx .dead) 0).drop off).take ty.kinds.length).length = ty.kinds.length := by simp [ZaU]; omega
    have hvj : ∀ j, j < ty.kinds.length → ((xs.drop (idx * tyT.kinds.length + off)).take ty.kinds.length).getD j undef = xs.getD (idx * tyT.kinds.length + (off + j)) undef := by
      intro j hj
      simp [List.getD, hj, List.getElem?_drop, Nat.add_assoc]
    have hA : M.w.rangeAt g (idx * tyT.kinds.length + off) ((xs.drop (idx * tyT.kinds.length + off)).take ty.kinds.length) := by
      intro j u hu
      have hj : j < ty.kinds.length := by have := (List.getElem?_eq_some_iff.1 hu).1; rw [hvl] at this; exact this
      obtain ⟨g', cap', e, _, _, hc⟩ := k3.cell (idx * tyT.kinds.length + (off + j)) (by omega)
      cases e
      rw [Nat.add_assoc, hc]
      have := hvj j hj
      rw [List.getD, hu] at this
      simpa using this.symm
    have hB : ∀ j, j < (((Zar tyT.kinds (els.getD idx .dead) 0).drop off).take ty.kinds.length).length → M.Rs tab E ((((Zar tyT.kinds (els.getD idx .dead) 0).drop off).take ty.kinds.length).getD j .dead) (((xs.drop (idx * tyT.kinds.length + off)).take ty.kinds.length).getD j undef) := by
      intro j hj
      rw [hcl] at hj
      have : (((Zar tyT.kinds (els.getD idx .dead) 0).drop off).take ty.kinds.length).getD j .dead = (els.getD idx .dead).cell (off + j) := by
        rw [← ZjM (k4 idx hi) (off + j)]
        simp [List.getD, hj, List.getElem?_drop]
      rw [this, hvj j hj]
      exact .tree (((k5 idx (off + j) hi (by omega)).flat_inv ((k4 idx hi).2.2.2 _ (by omega)) (Zol hf hj (by omega))).2 _)
    obtain ⟨w1, hv, hr⟩ := Ze7 (P := P) (hT t ty ht) (w := M.w) (ok := okS E M) (ρ := M.ρ) (g := g) (o := idx * tyT.kinds.length + off) (off := 0) (x := Eng.mk ty.agg (((Zar tyT.kinds (els.getD idx .dead) 0).drop off).take ty.kinds.length)) _ (by rw [hvl, hcl]) hA hB
      (by unfold Ze3; rw [if_pos ⟨by rw [hcl]; omega, x2⟩, List.drop_zero, List.take_take, Nat.min_self])
    refine ⟨w1, ?_, hr⟩
    simpa [Instr.loadAt, Instr.sureAddr] using hv
theorem ZnR (hT : Zx P tab) {E : Entry} {M : Mem} (hM : MemOk tab E M) {nid : Nat} {t : TypeId} {p : V} {pv : Value} (hp : M.Rs tab E p pv) {Ef : Eff} {log : List Nat}
    (he : ZiV tab nid t p M.hp = some (Ef, log)) (hn : nid ∈ Ef.upd.map (·.1) → M.hp nid = none) : ∃ M' val, (Instr.loadAt t pv).run P M.w = .ok val M'.w ∧ StepOk tab E M Ef val M' := by
  have plain : RM.bind (ZgL tab t p) (fun v => RM.ret (⟨v, []⟩ : Eff)) M.hp = some (Ef, log) → ∃ M' val, (Instr.loadAt t pv).run P M.w = .ok val M'.w ∧ StepOk tab E M Ef val M' := fun h => by
    obtain ⟨x, l, h1, rfl⟩ := Zdx h
    obtain ⟨v, h2, h3⟩ := Zhz hT hM hp h1
    exact ⟨M, v, h2, .same hM h3⟩
  unfold ZiV at he
  split at he
  · rename_i id idx off
    obtain ⟨u, l1, b1, l1', h1, h2, h3⟩ := Zi he
    cases h3
    obtain ⟨M1, w1, ρ1, m1, le1, hp1, hn1⟩ := Zjs hT hM h1
    have h2 := rm_on h2
    rw [← hp1] at h2
    have hpM : M1.Rs tab E (.rp id idx off) pv := le1.rs hp
    obtain ⟨b, l2, b2, l2', h4, h5, h6⟩ := Zi h2
    cases h6
    obtain ⟨h4, -⟩ := ZaD h4
    have plain : RM.bind (ZgL tab t (.rp id idx off)) (fun v => RM.ret (⟨v, u⟩ : Eff)) M1.hp = some (Ef, l2') → ∃ M' val, (Instr.loadAt t pv).run P M.w = .ok val M'.w ∧ StepOk tab E M Ef val M' := fun h => by
      obtain ⟨x, l, y, l', h1, h7, h8⟩ := Zi h
      cases Zk h7
      cases h8
      obtain ⟨v, h2, h3⟩ := Zhz hT m1 hpM h1
      refine ⟨M1, v, by rw [w1] at h2 ⊢; exact h2, ?_⟩
      have := StepOk.behind le1 hp1 (StepOk.same m1 h3)
      rwa [List.append_nil] at this
    cases b with
    | box T cs => exact plain h5
    | row T own els => exact plain h5
    | hrow _ _ _ _ _ => exact plain h5
    | grow _ _ => exact plain h5
    | drow T els =>
      obtain ⟨tyT, l3, b3, l3', h7, h8, h9⟩ := Zi h5
      cases h9
      obtain ⟨h7, -⟩ := Zt h7
      obtain ⟨ty, l4, b4, l4', h10, h11, h12⟩ := Zi h8
      cases h12
      obtain ⟨h10, -⟩ := Zt h10
      split at h11
      · rename_i e hke
        obtain ⟨h13, h14⟩ := Zv h11
        cases Zk h14
        simp only [Bool.and_eq_true, Bool.not_eq_true', decide_eq_true_eq] at h13
        obtain ⟨a1, a2, a3⟩ := h13
        cases hpM with
        | tree hp => cases hp
        | rp _ _ _ T' sz N g cap hg hi =>
          obtain ⟨ty2, v2, xs2, F2, k1, k2, k3, k4, k5, k6, k7, -⟩ := m1.drow h4
          obtain rfl : tyT = ty2 := Option.some.inj (h7.symm.trans k1)
          have e := k2.symm.trans hg
          simp only [Option.some.injEq, RB.row.injEq] at e
          obtain ⟨rfl, rfl, rfl, rfl⟩ := e
          have hnid : M1.hp nid = none := hn1 _ (hn (by simp))
          obtain ⟨M', v, xs, r1, r2, r3, r4, r5, r6, r7⟩ := open_mem hT m1 h7 h4 hnid hi a2
          have hoff : off < tyT.kinds.length := (List.getElem?_eq_some_iff.1 a2).1
          have e := r5.symm.trans hg
          simp only [Option.some.injEq, RB.row.injEq, true_and] at e
          subst e
          obtain ⟨g', cap', e, _, _, hc⟩ := r6.cell (idx * tyT.kinds.length + off) (ZbH hi hoff)
          cases e
          have hld := Zhj (hT t ty h10) M1.w g (idx * tyT.kinds.length + off) [xs.getD (idx * tyT.kinds.length + off) undef] (by rw [hke]; rfl) (fun j u hu => by
            obtain rfl : j = 0 := by have := (List.getElem?_eq_some_iff.1 hu).1; simpa using this
            cases hu
            rw [Nat.add_zero]; exact hc)
          have hmk : Zhx ty.agg [xs.getD (idx * tyT.kinds.length + off) undef] = xs.getD (idx * tyT.kinds.length + off) undef := by rw [a1]; rfl
          rw [hmk] at hld
          refine ⟨M', _, ?_, StepOk.behind le1 hp1 ⟨r2, r3, r4, r7⟩⟩
          rw [r1, w1] at *
          simpa [Instr.loadAt, Instr.sureAddr] using hld
      · obtain ⟨h13, h14⟩ := Zv h11
        obtain ⟨x, l5, y, l5', h15, h16, h17⟩ := Zi h14
        cases h17
        cases Zk h16
        obtain ⟨h15, -⟩ := Zt h15
        obtain ⟨v, r1, r2⟩ := Zls hT m1 h10 h7 h4 hpM h13 h15
        refine ⟨M1, v, by rw [w1] at r1 ⊢; exact r1, ?_⟩
        have := StepOk.behind le1 hp1 (StepOk.same m1 r2)
        rwa [List.append_nil] at this
  · exact plain he
theorem ZkJ (hT : Zx P tab) {E : Entry} {M : Mem} (hM : MemOk tab E M) {t : TypeId} {ty : Ty} (ht : tab t = some ty) {id idx off : Nat} {x : V} {pv v : Value} {T : TypeId} {els : List V} {tyT : Ty} (htT : tab T = some tyT)
    (hp : M.Rs tab E (.rp id idx off) pv) (hx : M.Rs tab E x v) (hl : x.cells.length = ty.kinds.length) (ha : x.cells.all V.one = true) (hb : M.hp id = some (some (.drow T els)))
    (hfit : off + x.cells.length ≤ tyT.kinds.length) (hf : ((tyT.kinds.drop off).take x.cells.length).all Ck.flat = true) (hk : ZdF ((tyT.kinds.drop off).take x.cells.length) x.cells = true) :
    ∃ M', (Instr.storeAt t pv v).run P M.w = .ok () M'.w ∧ StepOk tab E M ⟨.dead, [(id, some (.drow T (els.set idx (mk tyT.agg (Z5 (ZV tyT.kinds (els.getD idx .dead)) off x.cells)))))]⟩ undef M' := by
  obtain ⟨h1, h2, h3⟩ := ZcV hx ha
  obtain ⟨ty2, rv, xs, F, k1, k2, k3, k4, k5, k6, k7, -⟩ := hM.drow hb
  obtain rfl : tyT = ty2 := Option.some.inj (htT.symm.trans k1)
  cases hp with
  | tree hp => cases hp
  | rp _ _ _ T' sz N g cap hg hi =>
    have e := k2.symm.trans hg
    simp only [Option.some.injEq, RB.row.injEq] at e
    obtain ⟨rfl, rfl, rfl, rfl⟩ := e
    rcases k3.2 with ⟨b, e3, h0⟩ | ⟨g', cap', cur, e3, hc, hgr, hNc, hcm, hcs, htk⟩
    · omega
    simp only [Value.slice.injEq, Option.some.injEq, Addr.mk.injEq, and_true, true_and] at e3
    obtain ⟨rfl, rfl⟩ := e3
    obtain ⟨hkl, hkk⟩ := Ze8 hk
    have hle : idx * tyT.kinds.length + tyT.kinds.length ≤ els.length * tyT.kinds.length := by
      have : (idx + 1) * tyT.kinds.length ≤ els.length * tyT.kinds.length := Nat.mul_le_mul_right _ hi
      rwa [Nat.add_mul, Nat.one_mul] at this
    have hcap : els.length * tyT.kinds.length ≤ cap * tyT.kinds.length := Nat.mul_le_mul_right _ hNc
    have hrun := Zij (P := P) (hT t ty ht) (o := idx * tyT.kinds.length + off) hgr (h1.trans hl) h3 (by rw [hcs, ← hl]; omega)
    have hkind : ∀ j, j < x.cells.length → kindOk (tyT.kinds.getD (off + j) .other) (x.cells.getD j .dead) := fun j hj => by
      have := hkk j (by simp; omega)
      simpa [List.getD, List.getElem?_take, hj, List.getElem?_drop] using this
    obtain ⟨s1, s2⟩ := ZkI (hT T tyT htT) k4 hi hfit hkind
    have hclen : cur.toList.length = cap * tyT.kinds.length := by rw [Array.length_toList, hcs]
    have hnew : (cur.toList.take (idx * tyT.kinds.length + off) ++ v.cells.toList ++ cur.toList.drop (idx * tyT.kinds.length + off + v.cells.toList.length)).take (els.length * tyT.kinds.length) =
        xs.take (idx * tyT.kinds.length + off) ++ v.cells.toList ++ xs.drop (idx * tyT.kinds.length + off + v.cells.toList.length) := by
      rw [← htk]
      exact Zg2 _ _ _ _ (by omega) (by omega)
    have hval := fun i j (hj : j < tyT.kinds.length) => Zjl (sz := tyT.kinds.length) (off := off) (vals' := v.cells.toList) k3.1 hi (by omega) i j hj
    have hlen' : (els.set idx (mk tyT.agg (Z5 (ZV tyT.kinds (els.getD idx .dead)) off x.cells))).length = els.length := List.length_set
    have htg : Zp (.slice (some ⟨g, 0, none⟩) els.length cap) = [g] := by
      obtain ⟨c, rfl⟩ : ∃ c, cap = c + 1 := ⟨cap - 1, by omega⟩
      rfl
    have hgt : g ∈ M.top id := by rw [k6, htg]; simp
    have hrow : RowIs (M.w.setRow g (cur.toList.take (idx * tyT.kinds.length + off) ++ v.cells.toList ++ cur.toList.drop (idx * tyT.kinds.length + off + v.cells.toList.length)).toArray) T tyT.kinds.length
        (els.set idx (mk tyT.agg (Z5 (ZV tyT.kinds (els.getD idx .dead)) off x.cells))).length (.slice (some ⟨g, 0, none⟩) els.length cap)
        (xs.take (idx * tyT.kinds.length + off) ++ v.cells.toList ++ xs.drop (idx * tyT.kinds.length + off + v.cells.toList.length)) := by
      have hxl := k3.1
      refine ⟨by rw [hlen']; simp only [List.length_append, List.length_take, List.length_drop]; omega, .inr ⟨g, cap, _, by rw [hlen'], hc, hgr.setRow (by have := Array.length_toList (xs := cur); simp only [List.size_toArray, List.length_append, List.length_take, List.length_drop]; omega), by rw [hlen']; exact hNc, hcm, ?_, by rw [hlen']; exact hnew⟩⟩
      simp only [List.size_toArray, List.length_append, List.length_take, List.length_drop]; omega
    have hnd := hM.nodup id
    rw [k6, htg, k7, List.append_nil] at hnd
    obtain ⟨n1, n2, n3⟩ := List.nodup_append.1 hnd
    let w' := M.w.setRow g (cur.toList.take (idx * tyT.kinds.length + off) ++ v.cells.toList ++ cur.toList.drop (idx * tyT.kinds.length + off + v.cells.toList.length)).toArray
    have hoth : ∀ k, k ≠ g → w'.heap[k]? = M.w.heap[k]? := fun k hk => setRow_other _ _ _ _ hk
    let B : Blk := .drow T (els.set idx (mk tyT.agg (Z5 (ZV tyT.kinds (els.getD idx .dead)) off x.cells)))
    let M' : Mem := { w := w', ρ := M.ρ, top := M.top, nest := M.nest, hp := ZW M.hp [(id, some B)] }
    have hpi : ∀ i, M'.hp i = if i = id then some (some B) else M.hp i := fun i => rfl
    have hmv := hM.move (M' := M') (fun i => i = id) (fun i hi => ?_) (fun _ _ h => h) (fun k hk => ?_) (fun i hi k hk => ?_) ⟨rfl, rfl, rfl, by simp [M', w'], fun g hg hn => absurd (List.mem_range.2 hg) hn⟩ (fun k hk hF => ?_)
      (fun i hi k hk => .inl ⟨i, hi, hk⟩) (fun i hi k hk => .inl ⟨i, hi, List.mem_append_right _ hk⟩) (fun i hi => hM.nodup i) (fun i i' hi hi' hne => absurd (hi.trans hi'.symm) hne) (fun i hi k hk => ?_) (fun i hi => ?_) (fun hle i hi b hb' => ?_)
    · exact ⟨M', hrun, hmv.1, hmv.2, rfl, .tree (.dead _)⟩
    · exact ⟨rfl, rfl, rfl, by rw [hpi, if_neg hi]⟩
    · exact hoth k fun e => hk.2.2 id (e ▸ hgt)
    · exact hoth k fun e => hM.apart i id hi k hk (e ▸ List.mem_append_left _ hgt)
    · refine hoth k fun e => ?_
      subst e
      rcases hM.mineT id k hgt with h | h
      · exact hF h
      · omega
    · have := (hM.mine i k hk).2
      simpa [M', w'] using this
    · subst hi
      rw [hpi, if_pos rfl]; exact ⟨fun h => (by cases h), fun h => (by cases h)⟩
    · subst hi
      rw [hpi, if_pos rfl] at hb'
      cases hb'
      refine ⟨tyT, _, Zz els.length tyT.kinds.length F, htT, by rw [hlen']; exact k2, ⟨tyT, _, htT, hrow, fun a ha' => s1 a (by rwa [hlen'] at ha'), .inl ⟨rfl, F, by rw [hlen'], fun a b ha' hb' => ?_⟩⟩, k6, k7⟩
      rw [hlen'] at ha'
      rw [s2, hval a b hb', h1]
      by_cases e : a = idx ∧ off ≤ b ∧ b < off + x.cells.length
      · rw [if_pos e, if_pos e]
        obtain ⟨rfl, e1, e2⟩ := e
        have hk1 := hkind (b - off) (by omega)
        rw [show off + (b - off) = b from by omega] at hk1
        have hfl := Zol hf (j := b - off) (by omega) (by omega)
        rw [show off + (b - off) = b from by omega] at hfl
        rw [((k5 a b ha' hb').flat_inv ((k4 a ha').2.2.2 b hb') hfl).1]
        have hr := h2 (b - off) (by omega)
        generalize x.cells.getD (b - off) .dead = y at hk1 hr ⊢
        generalize v.cells.toList.getD (b - off) undef = u at hr ⊢
        generalize tyT.kinds.getD b .other = kd at hk1 hfl
        cases kd <;> cases y <;> simp [kindOk, Ck.flat] at hk1 hfl
        · rw [hr.int]; exact .int _ _
        · rw [hr.bool]; exact .bool _
        · obtain ⟨s, rfl, hs⟩ := hr.str; exact .str _ _ hs
      · rw [if_neg e, if_neg e]
        refine (k5 a b ha' hb').keep fun k hk => hoth k fun e => ?_
        subst e
        exact n3 k (by simp) k (mem_flatF.2 ⟨a, ha', b, hb', hk⟩) rfl
theorem Zjt (hT : Zx P tab) {E : Entry} {M : Mem} (hM : MemOk tab E M) {t : TypeId} {p x : V} {pv v : Value} (hp : M.Rs tab E p pv) (hx : M.Rs tab E x v) {u : List (Nat × Option Blk)} {log : List Nat}
    (h1 : Zhf tab t p x M.hp = some (u, log)) : ∃ M', (Instr.storeAt t pv v).run P M.w = .ok () M'.w ∧ StepOk tab E M ⟨.dead, u⟩ undef M' := by
  obtain ⟨ty, l2, b2, l2', h4, h5, h6⟩ := Zi h1
  obtain ⟨h4, -⟩ := Zt h4
  cases h6
  obtain ⟨h7, h8⟩ := Zv h5
  simp only [Bool.and_eq_true, decide_eq_true_eq] at h7
  cases p with
  | bp id off =>
    obtain ⟨blk, l3, b3, l3', h9, h10, h11⟩ := Zi h8
    obtain ⟨h9, -⟩ := ZaD h9
    cases h11
    cases blk with
    | row T own els => exact (Zl h10).elim
    | drow _ _ => exact (Zl h10).elim
    | hrow _ _ _ _ _ => exact (Zl h10).elim
    | grow _ _ => exact (Zl h10).elim
    | box T cs =>
      obtain ⟨h12, h13⟩ := Zv h10
      cases Zk h13
      exact Zlo hT hM h4 hp hx h7.1 h7.2 h9 (by simpa using h12)
  | rp id idx off =>
    obtain ⟨blk, l3, b3, l3', h9, h10, h11⟩ := Zi h8
    obtain ⟨h9, -⟩ := ZaD h9
    cases h11
    cases blk with
    | box T cs => exact (Zl h10).elim
    | drow _ _ => exact (Zl h10).elim
    | hrow _ _ _ _ _ => exact (Zl h10).elim
    | grow _ _ => exact (Zl h10).elim
    | row T own els =>
      obtain ⟨tyT, l4, b4, l4', h12, h13, h14⟩ := Zi h10
      obtain ⟨h12, -⟩ := Zt h12
      cases h14
      obtain ⟨⟨cs, own2, K2⟩, l5, b5, l5', h15, h16, h17⟩ := Zi h13
      cases h17
      obtain ⟨h18, h19⟩ := Zv h16
      cases Zk h19
      simp only [Bool.and_eq_true, decide_eq_true_eq] at h18
      exact Zlp hT hM h4 h12 hp hx h7.1 h7.2 h9 h15 h18.1.1 h18.1.2 h18.2
  | _ => exact (Zl (h := M.hp) h8).elim
theorem ZmO (hT : Zx P tab) {E : Entry} {M : Mem} (hM : MemOk tab E M) {t : TypeId} {p x : V} {pv v : Value} (hp : M.Rs tab E p pv) (hx : M.Rs tab E x v) {u : List (Nat × Option Blk)} {log : List Nat}
    (h : Zgp tab t p x M.hp = some (u, log)) : ∃ M', (Instr.storeAt t pv v).run P M.w = .ok () M'.w ∧ StepOk tab E M ⟨.dead, u⟩ undef M' := by
  unfold Zgp at h
  split at h
  · rename_i id idx off
    obtain ⟨u1, l1, b1, l1', h1, h2, h3⟩ := Zi h
    cases h3
    obtain ⟨M1, w1, ρ1, m1, le1, hp1, hn1⟩ := Zjs hT hM h1
    have h2 := rm_on h2
    rw [← hp1] at h2
    have hpM : M1.Rs tab E (.rp id idx off) pv := le1.rs hp
    have hxM : M1.Rs tab E x v := le1.rs hx
    obtain ⟨b, l2, b2, l2', h4, h5, h6⟩ := Zi h2
    cases h6
    obtain ⟨h4, -⟩ := ZaD h4
    have plain : RM.bind (Zhf tab t (.rp id idx off) x) (fun w => RM.ret (u1 ++ w)) M1.hp = some (u, l2') → ∃ M', (Instr.storeAt t pv v).run P M.w = .ok () M'.w ∧ StepOk tab E M ⟨.dead, u⟩ undef M' := fun h => by
      obtain ⟨y, l, b, l', h1, h7, h8⟩ := Zi h
      cases Zk h7
      cases h8
      obtain ⟨M', h2, h3⟩ := Zjt hT m1 hpM hxM h1
      exact ⟨M', by rw [w1] at h2; exact h2, StepOk.behind le1 hp1 h3⟩
    cases b with
    | box T cs => exact plain h5
    | row T own els => exact plain h5
    | hrow _ _ _ _ _ => exact plain h5
    | grow _ _ => exact plain h5
    | drow T els =>
      obtain ⟨tyT, l3, b3, l3', h7, h8, h9⟩ := Zi h5
      cases h9
      obtain ⟨h7, -⟩ := Zt h7
      obtain ⟨ty, l4, b4, l4', h10, h11, h12⟩ := Zi h8
      cases h12
      obtain ⟨h10, -⟩ := Zt h10
      obtain ⟨a1, h11⟩ := Zv h11
      obtain ⟨a2, h11⟩ := Zv h11
      cases Zk h11
      simp only [Bool.and_eq_true, decide_eq_true_eq] at a1 a2
      obtain ⟨M', h2, h3⟩ := ZkJ hT m1 h10 h7 hpM hxM a1.1 a1.2 h4 a2.1 a2.2.1 a2.2.2
      exact ⟨M', by rw [w1] at h2; exact h2, StepOk.behind le1 hp1 h3⟩
  · exact Zjt hT hM hp hx h
end
end Go.Eng
namespace Go.Eng
section
variable {P : Program}
theorem ZlK {α β : Type} (f : α → β) (xs : Array α) : (xs.toList.map f).toArray = xs.map f := by
  apply Array.ext'; simp
theorem ZmP {cfg : Cfg} (hT : Zx P cfg.tab) (hS : Zbh P cfg.tab cfg.sums) {E : Entry} {M : Mem} (hM : MemOk cfg.tab E M) {nid : Nat}
    {sl : Nat → V} {a : Act} (hs : Slots cfg.tab E M sl a) {o : Oper} {Ef : Eff} {log : List Nat} (h : ZbP cfg nid o (ev sl) M.hp = some (Ef, log)) (hfresh : ∀ id ∈ Ef.upd.map (·.1), nid ≤ id → M.hp id = none) (Q : Exit → Act → World → Prop) :
    o.wp P a M.w (OpOk cfg.tab E M o a Ef) Q := by
  have hn : nid ∈ Ef.upd.map (·.1) → M.hp nid = none := fun h => hfresh nid h (Nat.le_refl _)
  obtain ⟨dst, op, type, pos, after, guard⟩ := o
  cases op with
  | move x => cases Zk (h := M.hp) h; exact Zbc hM rfl (ev_rs hs x).typed
  | assign x => cases Zk (h := M.hp) h; exact Zbc hM rfl (ev_rs hs x).typed
  | pick c x y =>
    have hc := Zax hs c
    simp only [ZbP] at h
    cases hb : sft (ev sl) c with
    | bool b =>
      rw [hb] at hc h
      cases Zk (h := M.hp) h
      refine Zbc hM (v := if b then a.eval x else a.eval y) ?_ ?_
      · simp [execOp, hc.bool, asBool]
      · cases b
        · exact Zax hs y
        · exact Zax hs x
    | _ => rw [hb] at h; exact (Zl (h := M.hp) h).elim
  | alloc T =>
    have h : RM.bind (RM.lift (cfg.tab T)) (fun ty => RM.ret (⟨.bp nid 0, [(nid, some (.box T (ty.kinds.map ZcB)))]⟩ : Eff)) M.hp = some (Ef, log) := h
    obtain ⟨ty, l1, b1, l1', h1, h2, h3⟩ := Zi h
    obtain ⟨h1, -⟩ := Zt h1
    cases Zk h2
    cases h3
    obtain ⟨M', val, h4, h5⟩ := ZoO hT hM (hn (by simp)) h1
    exact ZdI ⟨M', val, Zbf h4, h5⟩
  | box T x =>
    have h : RM.bind (RM.lift (cfg.tab T)) (fun ty => RM.test (decide ((sft (ev sl) x).cells.length = ty.kinds.length) && (sft (ev sl) x).cells.all V.one) (RM.ret (⟨.bp nid 0, [(nid, some (.box T (Z1 cfg.tab ty.kinds (sft (ev sl) x).cells)))]⟩ : Eff))) M.hp = some (Ef, log) := h
    obtain ⟨ty, l1, b1, l1', h1, h2, h3⟩ := Zi h
    obtain ⟨h1, -⟩ := Zt h1
    obtain ⟨h4, h5⟩ := Zv h2
    cases Zk h5
    cases h3
    simp only [Bool.and_eq_true] at h4
    obtain ⟨M', val, h6, h7⟩ := Zpw (P := P) hM (hn (by simp)) (T := T) ty.kinds (Zax hs x) h4.2
    exact ZdI ⟨M', val, Zbf h6, h7⟩
  | build T ps =>
    obtain ⟨ty, l1, b1, l1', h1, h2, h3⟩ := Zi h
    obtain ⟨h1, -⟩ := Zt h1
    obtain ⟨cs, l2, b2, l2', h4, h5, h6⟩ := Zi h2
    obtain ⟨h4, -⟩ := Zt h4
    obtain ⟨h7, h8⟩ := Zv h5
    cases Zk h8
    cases h6; cases h3
    simp only [Bool.and_eq_true, List.all_eq_true] at h7
    obtain ⟨p1, p2⟩ := ZkG hs ps
    obtain ⟨v, h9, h10⟩ := ZnL hT h1 h7.1 p1 p2 (fun p hp => by simpa using h7.2 p hp) h4
    exact Zbc hM (Zbf h9) h10
  | buildSlice t n ps =>
    obtain ⟨e, l1, b1, l1', h1, h2, h3⟩ := Zi h
    obtain ⟨h1, -⟩ := Zt h1
    obtain ⟨ty0, h0, h1⟩ := Option.bind_eq_some_iff.1 h1
    obtain ⟨ty, l2, b2, l2', h4, h5, h6⟩ := Zi h2
    obtain ⟨h4, -⟩ := Zt h4
    obtain ⟨h7, h8⟩ := Zv h5
    obtain ⟨⟨res, own, K⟩, l3, b3, l3', h9, h10, h11⟩ := Zi h8
    obtain ⟨h12, h13⟩ := Zv h10
    cases Zk h13
    cases h11; cases h6; cases h3
    simp only [Bool.and_eq_true, decide_eq_true_eq] at h7
    obtain ⟨p1, p2⟩ := ZkG hs ps
    obtain ⟨M', val, h14, h15⟩ := ZjO hT hM (hn (by simp)) h0 h1 h4 h7.1 h7.2 p1 p2 h9 h12
    exact ZdI ⟨M', val, Zbf h14, h15⟩
  | load t p =>
    obtain ⟨M', val, h2, h3⟩ := ZnR hT hM (Zax hs p) h hn
    exact ZdI ⟨M', val, Zbf h2, h3⟩
  | store t p x =>
    have h : RM.bind (Zgp cfg.tab t (sft (ev sl) p) (sft (ev sl) x)) (fun u => RM.ret (⟨.dead, u⟩ : Eff)) M.hp = some (Ef, log) := h
    obtain ⟨u, l1, b1, l1', h1, h2, h3⟩ := Zi h
    cases Zk h2
    cases h3
    obtain ⟨M', h14, h15⟩ := ZmO hT hM (Zax hs p) (Zax hs x) h1
    exact op_unit ⟨M', run_u h14, h15⟩
  | nilCheck x =>
    have hx := Zax hs x
    have hptr : ∀ ad, a.eval x = .pointer (some ad) → (execOp a.eval ⟨dst, .nilCheck x, type, pos, after, guard⟩).run P M.w = .ok (.value (a.eval x)) M.w := by
      intro ad h; simp only [execOp, h, Sem.run_pure]
    have hfun : ∀ f fs cs, a.eval x = .func (.func f) fs cs → (execOp a.eval ⟨dst, .nilCheck x, type, pos, after, guard⟩).run P M.w = .ok (.value (a.eval x)) M.w := by
      intro f fs cs h; simp only [execOp, h, Sem.run_pure]
    simp only [ZbP] at h
    cases hpe : sft (ev sl) x with
    | bp id off =>
      rw [hpe] at hx h
      cases Zk (h := M.hp) h
      refine Zbc hM (v := a.eval x) ?_ hx
      generalize hv : a.eval x = v at hx hptr
      cases hx with
      | tree hx => cases hx
      | bp _ _ g _ => rw [← hv]; rw [← hv] at hptr; exact hptr _ hv
    | rp id i off =>
      rw [hpe] at hx h
      cases Zk (h := M.hp) h
      refine Zbc hM (v := a.eval x) ?_ hx
      generalize hv : a.eval x = v at hx hptr
      cases hx with
      | tree hx => cases hx
      | rp _ _ _ _ _ _ _ _ _ => rw [← hv]; rw [← hv] at hptr; exact hptr _ hv
    | ep cs off =>
      rw [hpe] at hx h
      cases Zk (h := M.hp) h
      refine Zbc hM (v := a.eval x) ?_ hx
      have hx := hx.ep
      generalize hv : a.eval x = v at hx hptr
      cases hx with
      | ep _ _ _ _ _ _ _ _ => rw [← hv]; rw [← hv] at hptr; exact hptr _ hv
    | fn f caps =>
      rw [hpe] at hx h
      cases Zk (h := M.hp) h
      obtain ⟨vals, hv, -⟩ := hx.fn_inv
      exact Zbc hM (hfun _ _ _ hv) hx
    | _ => rw [hpe] at h; exact (Zl (h := M.hp) h).elim
  | binOp bop t x y e =>
    simp only [ZbP] at h
    cases hnc : Zkc y with
    | true =>
      rw [hnc] at h
      obtain ⟨e0, l1, b1, l1', h0, h2, h3⟩ := Zi h
      obtain ⟨h0, -⟩ := Zt h0
      obtain ⟨r, l, h1, rfl⟩ := Zdx h2
      cases h3
      obtain ⟨h1, -⟩ := Zt h1
      have hy : y = .const (.slice none 0 0) := by
        unfold Zkc at hnc
        split at hnc
        · rfl
        · cases hnc
      subst hy
      obtain ⟨v, h2, h3⟩ := ZpH (ox := x) hT h0 (ev_rs hs x) h1
      exact Zbc hM (Zbf h2) h3
    | false =>
      rw [hnc] at h
      obtain ⟨h0, h⟩ := Zv h
      obtain ⟨r, l, h1, rfl⟩ := Zdx h
      obtain ⟨h1, -⟩ := Zt h1
      obtain ⟨v, h2, h3⟩ := Zpu (ox := x) (oy := y) hT (Zax hs x) (Zax hs y) (ZpG h0 h1)
      exact Zbc hM (Zbf h2) h3
  | unOp uop t x =>
    obtain ⟨r, l, h1, rfl⟩ := Zdx h
    obtain ⟨h1, -⟩ := Zt h1
    obtain ⟨v, h2, h3⟩ := un_sound (P := P) (Zax hs x) h1
    exact Zbc hM (Zbf h2) h3
  | convert s d x =>
    simp only [ZbP] at h
    have hx := Zax hs x
    split at h
    · rename_i l hl
      rw [hl] at hx
      split at h
      · obtain ⟨M', val, h1, h2⟩ := ZkH hT hM (nid := nid) (fun _ => hn (Zmd h)) hx h
        exact ZdI ⟨M', val, Zbf h1, h2⟩
      · obtain ⟨M', val, h1, h2⟩ := Zlr hT hM hx h
        exact ZdI ⟨M', val, Zbf h1, h2⟩
    · rename_i id T hl
      rw [hl] at hx
      split at h
      · obtain ⟨M', val, h1, h2⟩ := ZmM hT hM hx h
        exact ZdI ⟨M', val, Zbf h1, h2⟩
      · obtain ⟨r, l, h1, rfl⟩ := Zdx h
        obtain ⟨v, h2, h3⟩ := Zkx hT hM hx h1
        exact Zbc hM (Zbf h2) h3
    · obtain ⟨r, l, h1, rfl⟩ := Zdx h
      obtain ⟨v, h2, h3⟩ := Zkx hT hM hx h1
      exact Zbc hM (Zbf h2) h3
  | makeFunc fn first captured =>
    cases fn with
    | func f =>
      have h : RM.test first.toList.isEmpty (RM.ret (⟨.fn f (captured.toList.map (sft (ev sl))), []⟩ : Eff)) M.hp = some (Ef, log) := h
      obtain ⟨h1, h2⟩ := Zv h
      cases Zk h2
      have hf : first = #[] := by
        obtain ⟨l⟩ := first
        cases l with
        | nil => rfl
        | cons _ _ => simp at h1
      subst hf
      obtain ⟨r1, r2⟩ := ZgQ hs captured.toList
      refine Zbc hM (v := .func (.func f) #[] (captured.toList.map a.eval).toArray) ?_ (.fn _ _ _ r1 r2)
      simp [execOp, Instr.makeFunc, ZlK]
    | _ => exact (Zl (h := M.hp) h).elim
  | makeSlice t n c =>
    obtain ⟨M', val, h1, h2⟩ := ZoS hT hM (hn (make_key h)) (Zax hs n) (Zax hs c) h
    exact ZdI ⟨M', val, Zbf h1, h2⟩
  | slice t x lo hi mx =>
    obtain ⟨r, l, h1, rfl⟩ := Zdx h
    have hopt : ∀ y : Option Operand, OptRs cfg.tab E M (y.map (sft (ev sl))) (y.map a.eval) := by
      intro y
      cases y with
      | none => exact .inl ⟨rfl, rfl⟩
      | some y => exact .inr ⟨_, _, rfl, rfl, Zax hs y⟩
    obtain ⟨v, h2, h3⟩ := ZnI hT hM (Zax hs x) (hopt lo) (hopt hi) (hopt mx) h1
    exact Zbc hM (Zbf h2) h3
  | fieldAddr t x f =>
    obtain ⟨r, l, h1, rfl⟩ := Zdx h
    obtain ⟨h1, -⟩ := Zt h1
    obtain ⟨v, h2, h3⟩ := Zkp hT (Zax hs x) h1
    exact Zbc hM (Zbf h2) h3
  | field t x f =>
    obtain ⟨r, l, h1, rfl⟩ := Zdx h
    obtain ⟨h1, -⟩ := Zt h1
    obtain ⟨v, h2, h3⟩ := Zl8 hT (Zax hs x) h1
    exact Zbc hM (Zbf h2) h3
  | indexAddr t x i =>
    obtain ⟨r, l, h1, rfl⟩ := Zdx h
    obtain ⟨v, h2, h3⟩ := Zks hT hM (Zax hs x) (Zax hs i) h1
    exact Zbc hM (Zbf h2) h3
  | index t x i =>
    have hx := Zax hs x
    have hi := Zax hs i
    simp only [ZbP] at h
    cases hxe : sft (ev sl) x with
    | str l =>
      cases hie : sft (ev sl) i with
      | int k n =>
        rw [hxe] at hx h
        rw [hie] at hi h
        obtain ⟨h1, h2⟩ := Zv h
        cases Zk h2
        simp only [Bool.and_eq_true] at h1
        have hu : P.underlying t = some .string := by
          have := h1.1
          unfold isStr at this
          split at this
          · rename_i ht
            exact (hT _ _ ht).strs rfl rfl
          · cases this
        obtain ⟨v, h3, h4⟩ := Zkq (P := P) (k := k) hx hu h1.2
        rw [← hi.int] at h3
        exact Zbc hM (Zbf h3) h4
      | _ => rw [hxe, hie] at h; exact (Zl (h := M.hp) h).elim
    | _ => rw [hxe] at h; exact (Zl (h := M.hp) h).elim
  | extract x i =>
    have hx := Zax hs x
    simp only [ZbP] at h
    cases hxe : sft (ev sl) x with
    | tup vs =>
      rw [hxe] at hx h
      obtain ⟨r, l, h1, rfl⟩ := Zdx h
      obtain ⟨h1, -⟩ := Zt h1
      obtain ⟨v, h2, h3⟩ := Zl5 (P := P) hx h1 rfl
      exact Zbc hM (Zbf h2) h3
    | _ => rw [hxe] at h; exact (Zl (h := M.hp) h).elim
  | call c =>
    simp only [ZbP] at h
    cases hcal : c.callee with
    | builtin b =>
      rw [hcal] at h
      obtain ⟨M', val, h1, h2⟩ := Zmc (ts := c.argTypes) (ot := type) (cs := c.args.map fun | .const _ => true | _ => false) hT hM (ZgQ hs c.args.toList) h hn
      refine ZdI ⟨M', val, ?_, h2⟩
      rw [ZlK] at h1
      simp only [execOp, resolve, hcal, Sem.run_bind, Sem.run_pure, Result.andThen_ok, invoke]
      exact h1
    | value f =>
      rw [hcal] at h
      simp only [] at h
      cases hg : sft (ev sl) f with
      | fn g caps =>
        have hfv := Zax hs f
        rw [hg] at hfv h
        obtain ⟨vals, hfe, hl, hj⟩ := hfv.fn_inv
        have hr := (ZgQ hs c.args.toList).append (ys := caps) (us := vals) ⟨hl, hj⟩
        obtain ⟨he, hc⟩ := ZoW rfl hS hM hr h hfresh
        have hrun : (execOp a.eval ⟨dst, .call c, type, pos, after, guard⟩).run P M.w = .ok (.enter g (c.args.toList.map a.eval ++ vals).toArray) M.w := by
          simp only [execOp, resolve, hcal, Deferred.ofValue, hfe, Sem.run_bind, Sem.run_pure, Result.andThen_ok, invoke]
          rw [ZlJ he]
          simp
        simp only [Oper.wp, hrun, Oper.upon]
        refine Calls.mono hc ?_
        rintro e w' ⟨val, rfl, M', hw, hst⟩
        exact ⟨M', val, rfl, hw, hst⟩
      | _ => rw [hg] at h; exact (Zl (h := M.hp) h).elim
    | _ => rw [hcal] at h; exact (Zl (h := M.hp) h).elim
  | _ => exact (Zl (h := M.hp) h).elim
end
end Go.Eng
namespace Go.Eng
section
variable {P : Program}
structure Fs where
  sl : Nat → V
  hp : ZaC
structure Ent where
  dst : Option Nat
  v : V
  upd : List (Nat × Option Blk)
  log : List Nat
def Ent.mods (e : Ent) : List Nat := e.upd.map (·.1)
def Ent.recd (e : Ent) : Rec := ⟨e.log, e.mods, false⟩
def Zf4 (sl : Nat → V) : Option Nat → V → Nat → V
  | some d, v => fun t => if t = d then v else sl t
  | none, _ => sl
def ZaM (F : Fs) (e : Ent) : Fs := ⟨Zf4 F.sl e.dst e.v, ZW F.hp e.upd⟩
noncomputable def St.F (s : St) : Fs := ⟨s.slot, s.heap⟩
theorem ZB {α : Type} (p : Nat × α) (r : List (Nat × α)) (i : Nat) : look (p :: r) i = if i = p.1 then some p.2 else look r i := by
  obtain ⟨t, v⟩ := p
  show (bif Nat.beq t i then some v else look r i) = _
  by_cases h : i = t
  · subst h; simp
  · have : Nat.beq t i = false := by
      cases hb : Nat.beq t i
      · rfl
      · exact absurd (Nat.eq_of_beq_eq_true hb).symm h
    simp [this, h]
theorem ZnS (h : List (Nat × Option Blk)) (u : List (Nat × Option Blk)) : (look (Zhh h u) : ZaC) = ZW (look h) u := by
  induction u generalizing h with
  | nil => rfl
  | cons p u ih =>
    simp only [Zhh, ZW]
    rw [ih]
    congr 1
    funext i
    rw [ZB]
theorem ZeW (s : St) (d : Nat) (v : V) (t : Nat) : (look ((d, v) :: s.sl) t).getD .dead = if t = d then v else s.slot t := by
  rw [ZB]
  by_cases h : t = d
  · simp [h]
  · simp [h, St.slot]
theorem put_lent (s : St) (dst : Option Nat) (v : V) : (s.put dst v).lent = s.lent := by cases dst <;> rfl
theorem app_F (s : St) (dst : Option Nat) (E : Eff) (log : List Nat) : (s.app dst E).F = ZaM s.F ⟨dst, E.v, E.upd, log⟩ := by
  simp only [St.F, ZaM, Fs.mk.injEq]
  constructor
  · funext t
    cases dst with
    | none => rfl
    | some d => simpa [St.app, St.slot, Zf4] using ZeW s d E.v t
  · exact ZnS s.hp E.upd
theorem put_F (s : St) (dst : Option Nat) (v : V) : (s.put dst v).F = ZaM s.F ⟨dst, v, [], []⟩ := by
  simp only [St.F, ZaM, Fs.mk.injEq, ZW]
  constructor
  · funext t
    cases dst with
    | none => rfl
    | some d => simpa [St.put, St.slot, Zf4] using ZeW s d v t
  · cases dst <;> rfl
theorem ZjQ (s : St) (t : Nat) (v : V) (h : s.slot t = v) : (s.put (some t) v).F = s.F ∧ (s.put (some t) v).nid = s.nid := by
  refine ⟨?_, rfl⟩
  rw [put_F]
  simp only [St.F, ZaM, Zf4, ZW, Fs.mk.injEq, and_true]
  funext u
  by_cases e : u = t
  · simp [e, h]
  · simp [e]
def Zbt (all : List Oper) (F : Fs) (o : Oper) : Option Bool :=
  match o.guard with
  | none => some true
  | some (j, want) => match all[j]?.bind (·.dst) with
    | none => none
    | some t => match F.sl t with
      | .bool b => some (b == want)
      | .sk => some false
      | _ => none
def Zi1 (cfg : Cfg) (all : List Oper) (F : Fs) (nid : Nat) (o : Oper) (e : Ent) : Prop :=
  e.dst = o.dst ∧ ((Zbt all F o = some true ∧ ZbP cfg nid o (ev F.sl) F.hp = some (⟨e.v, e.upd⟩, e.log)) ∨
    (Zbt all F o = some false ∧ e.v = .sk ∧ e.upd = [] ∧ e.log = []))
inductive Ents (cfg : Cfg) (all : List Oper) : Fs → Nat → List Oper → List Ent → Prop where
  | nil (F : Fs) (nid : Nat) : Ents cfg all F nid [] []
  | cons {F : Fs} {nid : Nat} {o : Oper} {r : List Oper} {e : Ent} {es : List Ent} : Zi1 cfg all F nid o e → Ents cfg all (ZaM F e) (ZcM nid e.upd) r es → Ents cfg all F nid (o :: r) (e :: es)
def Zac (F : Fs) (es : List Ent) : Fs := es.foldl ZaM F
def Zfd (nid : Nat) (es : List Ent) : Nat := es.foldl (fun n e => ZcM n e.upd) nid
theorem Zej {X : Type} : ∀ {c : List Bool} {k : Option X} {x : X}, Zgr c k = some x → ZdP c = true ∧ k = some x
  | [], _, _, h => ⟨rfl, h⟩
  | b :: c, k, x, h => by
    cases b with
    | false => cases h
    | true => exact Zej (c := c) h
theorem Zg6 {X : Type} {cfg : Cfg} {all : List Oper} {o : Oper} {s s0 : St} (hF : s.F = s0.F) (hnid : s.nid = s0.nid) (hlent : s.lent = s0.lent) (hw : Zbt all s0.F o = some true) {tr : List Rec} {k : St → List Rec → Option X} {x : X}
    (h : ZeU cfg o s tr k = some x) : ∃ e s', Zi1 cfg all s0.F s0.nid o e ∧ s'.F = ZaM s0.F e ∧ s'.nid = ZcM s0.nid e.upd ∧ s'.lent = s0.lent ∧ k s' (e.recd :: tr) = some x := by
  unfold ZeU at h
  split at h
  · rename_i E log c he
    obtain ⟨hc, h⟩ := Zej h
    refine ⟨⟨o.dst, E.v, E.upd, log⟩, s.app o.dst E, ⟨rfl, .inl ⟨hw, ?_⟩⟩, ?_, ?_, hlent, h⟩
    · rw [← hF, ← hnid]; exact rm_at.2 ⟨c, he, hc⟩
    · rw [app_F s o.dst E log, hF]
    · simp [St.app, hnid]
  · cases h
theorem ZoZ {X : Type} {cfg : Cfg} {all : List Oper} {o : Oper} {s s0 : St} (hF : s.F = s0.F) (hnid : s.nid = s0.nid) (hlent : s.lent = s0.lent) (hw : Zbt all s0.F o = some true) {tr : List Rec} {k : St → List Rec → Option X} {x : X}
    (h : ZdY cfg o s tr k = some x) : ∃ e s', Zi1 cfg all s0.F s0.nid o e ∧ s'.F = ZaM s0.F e ∧ s'.nid = ZcM s0.nid e.upd ∧ s'.lent = s0.lent ∧ k s' (e.recd :: tr) = some x := by
  unfold ZdY at h
  split at h
  · split at h
    · rename_i b hb
      have hput : ∀ v, v = V.bool b → ((s.put (some _) v).F = s0.F ∧ (s.put (some _) v).nid = s0.nid) := fun v hv => by
        obtain ⟨h1, h2⟩ := ZjQ s _ v (hb.trans hv.symm)
        exact ⟨h1.trans hF, h2.trans hnid⟩
      cases b with
      | true => exact Zg6 (hput _ rfl).1 (hput _ rfl).2 hlent hw h
      | false => exact Zg6 (hput _ rfl).1 (hput _ rfl).2 hlent hw h
    · cases h
  · exact Zg6 hF hnid hlent hw h
theorem ZfK {X : Type} {cfg : Cfg} {all : List Oper} : ∀ (l : List Oper) (s : St) (tr : List Rec) (k : St → List Rec → Option X) (x : X), Zby cfg all l s tr k = some x →
    ∃ es s', Ents cfg all s.F s.nid l es ∧ s'.F = Zac s.F es ∧ s'.nid = Zfd s.nid es ∧ s'.lent = s.lent ∧ k s' ((es.map Ent.recd).reverse ++ tr) = some x
  | [], s, tr, k, x, h => ⟨[], s, .nil _ _, rfl, rfl, rfl, h⟩
  | o :: r, s, tr, k, x, h => by
    have hrun : ∀ s1 : St, s1.F = s.F → s1.nid = s.nid → s1.lent = s.lent → Zbt all s.F o = some true → ZdY cfg o s1 tr (fun s tr => Zby cfg all r s tr k) = some x →
        ∃ es s', Ents cfg all s.F s.nid (o :: r) es ∧ s'.F = Zac s.F es ∧ s'.nid = Zfd s.nid es ∧ s'.lent = s.lent ∧ k s' ((es.map Ent.recd).reverse ++ tr) = some x := by
      intro s1 h1 h2 h2' h3 h4
      obtain ⟨e, s', he, hs1, hs2, hs2', hk⟩ := ZoZ h1 h2 h2' h3 h4
      obtain ⟨es, s'', hes, hs3, hs4, hs5, hk2⟩ := ZfK r s' _ k x hk
      rw [hs1, hs2] at hes
      refine ⟨e :: es, s'', .cons he hes, ?_, ?_, hs5.trans hs2', ?_⟩
      · rw [hs3, hs1]; rfl
      · rw [hs4, hs2]; rfl
      · simpa using hk2
    have hskip : ∀ s1 : St, s1.F = s.F → s1.nid = s.nid → s1.lent = s.lent → Zbt all s.F o = some false → Zby cfg all r (s1.put o.dst .sk) (⟨[], [], false⟩ :: tr) k = some x →
        ∃ es s', Ents cfg all s.F s.nid (o :: r) es ∧ s'.F = Zac s.F es ∧ s'.nid = Zfd s.nid es ∧ s'.lent = s.lent ∧ k s' ((es.map Ent.recd).reverse ++ tr) = some x := by
      intro s1 h1 h2 h2' h3 h4
      obtain ⟨es, s'', hes, hs3, hs4, hs5, hk2⟩ := ZfK r _ _ k x h4
      have hp : (s1.put o.dst .sk).F = ZaM s.F ⟨o.dst, .sk, [], []⟩ := by rw [put_F, h1]
      have hq : (s1.put o.dst .sk).nid = s.nid := by cases o.dst <;> exact h2
      rw [hp, hq] at hes
      refine ⟨⟨o.dst, .sk, [], []⟩ :: es, s'', .cons ⟨rfl, .inr ⟨h3, rfl, rfl, rfl⟩⟩ hes, ?_, ?_, hs5.trans ((put_lent _ _ _).trans h2'), ?_⟩
      · rw [hs3, hp]; rfl
      · rw [hs4, hq]; rfl
      · simpa [Ent.recd, Ent.mods] using hk2
    unfold Zby at h
    split at h
    · rename_i hg
      exact hrun s rfl rfl rfl (by simp [Zbt, hg]) h
    · rename_i j want hg
      split at h
      · cases h
      · rename_i t ht
        split at h
        · rename_i b hb
          have hw : Zbt all s.F o = some (b == want) := by
            have : s.F.sl t = .bool b := hb
            simp [Zbt, hg, ht, this]
          have hput : ∀ v, v = V.bool b → ((s.put (some t) v).F = s.F ∧ (s.put (some t) v).nid = s.nid) := fun v hv => ZjQ s t v (hb.trans hv.symm)
          cases want with
          | true =>
            cases b with
            | true => exact hrun _ (hput _ rfl).1 (hput _ rfl).2 rfl hw h
            | false => exact hskip _ (hput _ rfl).1 (hput _ rfl).2 rfl hw h
          | false =>
            cases b with
            | true => exact hskip _ (hput _ rfl).1 (hput _ rfl).2 rfl hw h
            | false => exact hrun _ (hput _ rfl).1 (hput _ rfl).2 rfl hw h
        · rename_i hb
          have hw : Zbt all s.F o = some false := by
            have : s.F.sl t = .sk := hb
            simp [Zbt, hg, ht, this]
          exact hskip s rfl rfl rfl hw h
        · cases h
theorem Ents.get {cfg : Cfg} {all : List Oper} {F : Fs} {nid : Nat} {l : List Oper} {es : List Ent} (h : Ents cfg all F nid l es) :
    es.length = l.length ∧ ∀ i o, l[i]? = some o → ∃ e, es[i]? = some e ∧ Zi1 cfg all (Zac F (es.take i)) (Zfd nid (es.take i)) o e := by
  induction h with
  | nil => simp
  | @cons F nid o r e es he _ ih =>
    refine ⟨by simp [ih.1], fun i o' hi => ?_⟩
    cases i with
    | zero => simp at hi; subst hi; exact ⟨e, rfl, he⟩
    | succ i =>
      obtain ⟨e', h1, h2⟩ := ih.2 i o' (by simpa using hi)
      exact ⟨e', by simpa using h1, h2⟩
theorem ZpI (nid : Nat) (u : List (Nat × Option Blk)) : nid ≤ ZcM nid u ∧ ∀ p ∈ u, p.1 < ZcM nid u := by
  induction u generalizing nid with
  | nil => simp [ZcM]
  | cons p u ih =>
    obtain ⟨h1, h2⟩ := ih (bif Nat.ble nid p.1 then p.1 + 1 else nid)
    have h3 : nid ≤ (bif Nat.ble nid p.1 then p.1 + 1 else nid) ∧ p.1 < (bif Nat.ble nid p.1 then p.1 + 1 else nid) := by
      cases hb : Nat.ble nid p.1
      · have : ¬ nid ≤ p.1 := fun h => by rw [Nat.ble_eq_true_of_le h] at hb; cases hb
        simp; omega
      · have := Nat.le_of_ble_eq_true hb
        simp; omega
    simp only [ZcM]
    refine ⟨by omega, fun q hq => ?_⟩
    rcases List.mem_cons.1 hq with rfl | hq
    · omega
    · exact h2 q hq
theorem Zcs {hp : ZaC} {u : List (Nat × Option Blk)} {i : Nat} (h : ∀ p ∈ u, p.1 ≠ i) : ZW hp u i = hp i := by
  induction u generalizing hp with
  | nil => rfl
  | cons p u ih =>
    simp only [ZW]
    rw [ih fun q hq => h q (List.mem_cons_of_mem _ hq)]
    exact if_neg fun e => h p (by simp) e.symm
theorem Zir {F : Fs} {nid : Nat} {e : Ent} (h : ∀ id, nid ≤ id → F.hp id = none) : ∀ id, ZcM nid e.upd ≤ id → (ZaM F e).hp id = none := by
  intro id hid
  obtain ⟨h1, h2⟩ := ZpI nid e.upd
  show ZW F.hp e.upd id = none
  rw [Zcs fun p hp he => by have := h2 p hp; omega]
  exact h id (by omega)
theorem Zis {F : Fs} {nid : Nat} (h : ∀ id, nid ≤ id → F.hp id = none) (es : List Ent) : ∀ id, Zfd nid es ≤ id → (Zac F es).hp id = none := by
  induction es generalizing F nid with
  | nil => exact h
  | cons e es ih => exact ih (Zir h)
structure RelF (tab : Tab) (E : Entry) (ρ0 M : Mem) (F : Fs) (a : Act) : Prop where
  mem : MemOk tab E M
  le : MemLe E ρ0 M
  hp : M.hp = F.hp
  slots : Slots tab E M F.sl a
theorem Zme {a : Act} {d : Nat} {v : Value} (h : d < a.tmps.size) : (a.put (some d) v).eval (.tmp d) = v := by
  simp [Act.put, Act.eval, h]
theorem Zlt {a : Act} {d t : Nat} {v : Value} (h : t ≠ d) : (a.put (some d) v).eval (.tmp t) = a.eval (.tmp t) := by
  simp [Act.put, Act.eval, Array.getElem?_setIfInBounds_ne (Ne.symm h)]
theorem Slots.put {tab : Tab} {E : Entry} {M : Mem} {sl : Nat → V} {a : Act} (h : Slots tab E M sl a) {dst : Option Nat} {x : V} {v : Value} (hd : ∀ d, dst = some d → d < a.tmps.size) (hv : M.Rs tab E x v) : Slots tab E M (Zf4 sl dst x) (a.put dst v) := by
  cases dst with
  | none => exact h
  | some d =>
    intro t
    by_cases e : t = d
    · subst e
      rw [Zme (hd _ rfl)]
      simpa [Zf4] using hv
    · rw [Zlt e]
      simpa [Zf4, e] using h t
theorem Zit {tab : Tab} {E : Entry} {ρ0 M : Mem} {F : Fs} {a : Act} (hR : RelF tab E ρ0 M F a) {ops : Array Oper} {o : Oper} : ∀ b, Zbt ops.toList F o = some b → Region.wanted o (yielded ops a.tmps) = b := by
  intro b hb
  unfold Zbt at hb
  unfold Region.wanted
  cases hg : o.guard with
  | none => rw [hg] at hb; simpa using hb
  | some gw =>
    obtain ⟨g, want⟩ := gw
    rw [hg] at hb
    simp only [] at hb ⊢
    cases ht : (ops.toList[g]?).bind (·.dst) with
    | none => rw [ht] at hb; cases hb
    | some t =>
      rw [ht] at hb
      simp only [] at hb
      cases hx : F.sl t with
      | bool c =>
        rw [hx] at hb
        simp only [Option.some.injEq] at hb
        have hv := hR.slots t
        rw [hx] at hv
        have hv := hv.bool
        have : yielded ops a.tmps g = some c := by
          unfold yielded
          have ht' : (ops[g]?).bind (·.dst) = some t := by rw [← Array.getElem?_toList]; exact ht
          rw [ht']
          simp only [Act.eval] at hv
          have hv' : a.tmps[t]? = some (.bool c) := by
            cases hq : a.tmps[t]? with
            | none => simp [Array.getD_eq_getD_getElem?, hq, undef] at hv
            | some u => simp [Array.getD_eq_getD_getElem?, hq] at hv; rw [hv]
          simp [hv']
        rw [this]
        rw [← hb]
        cases c <;> cases want <;> rfl
      | sk =>
        rw [hx] at hb
        simp only [Option.some.injEq] at hb
        subst hb
        have hv := hR.slots t
        rw [hx] at hv
        have hv : a.eval (.tmp t) = undef := by
          generalize a.eval (.tmp t) = u at hv
          cases hv with | tree hv => cases hv; rfl
        have : yielded ops a.tmps g = none := by
          unfold yielded
          have ht' : (ops[g]?).bind (·.dst) = some t := by rw [← Array.getElem?_toList]; exact ht
          rw [ht']
          simp only [Act.eval] at hv
          cases hq : a.tmps[t]? with
          | none => simp [hq]
          | some u => simp [Array.getD_eq_getD_getElem?, hq] at hv; simp [hq, hv, undef]
        rw [this]; rfl
      | _ => rw [hx] at hb; cases hb
theorem ZmQ {cfg : Cfg} (hT : Zx P cfg.tab) (hS : Zbh P cfg.tab cfg.sums) {E : Entry} {ρ0 M : Mem} {F : Fs} {a : Act} (hR : RelF cfg.tab E ρ0 M F a) {ops : Array Oper} {i nid : Nat} {o : Oper} (ho : ops[i]? = some o) {e : Ent}
    (he : Zi1 cfg ops.toList F nid o e) (hfresh : ∀ id ∈ e.mods, nid ≤ id → F.hp id = none) (hd : ∀ d, o.dst = some d → d < a.tmps.size) {Q : Exit → Act → World → Prop} {K : Act → World → Prop}
    (hK : ∀ M' v, RelF cfg.tab E ρ0 M' (ZaM F e) (a.put o.dst v) → (a.put o.dst v).tmps.size = a.tmps.size → (a.put o.dst v).defers = a.defers → K (a.put o.dst v) M'.w) : wpOp P ops Q i K a M.w := by
  have hsz : ∀ v, (a.put o.dst v).tmps.size = a.tmps.size ∧ (a.put o.dst v).defers = a.defers := fun v => by cases o.dst <;> simp [Act.put]
  obtain ⟨he1, he2⟩ := he
  have hwant := Zit hR (ops := ops) (o := o)
  unfold wpOp
  simp only [ho]
  rcases he2 with ⟨hw, hef⟩ | ⟨hw, hv, hu, hl⟩
  · rw [hwant _ hw]
    simp only [if_true]
    refine .inl (Oper.wp_mono (K := OpOk cfg.tab E M o a ⟨e.v, e.upd⟩) ?_ (ZmP hT hS hR.mem hR.slots (nid := nid) (log := e.log) ?_ ?_ Q))
    · rintro a' w' ⟨M', val, rfl, rfl, hst⟩
      refine hK M' val ⟨hst.mem, hR.le.trans hst.le, ?_, ?_⟩ (hsz _).1 (hsz _).2
      · rw [hst.hp, hR.hp]; rfl
      · simp only [ZaM, he1]
        exact Slots.put (fun t => hst.le.rs (hR.slots t)) hd hst.val
    · rw [hR.hp]; exact hef
    · intro id hid hge
      rw [hR.hp]; exact hfresh id hid hge
  · rw [hwant _ hw]
    simp only [Bool.false_eq_true, if_false]
    refine hK M undef ⟨hR.mem, hR.le, ?_, ?_⟩ (hsz _).1 (hsz _).2
    · rw [hR.hp]; simp [ZaM, hu, ZW]
    · simp only [ZaM, he1, hv]
      exact Slots.put hR.slots hd (.tree .sk)
end
end Go.Eng
namespace Go.Eng
section
variable {P : Program}
theorem Zom {cfg : Cfg} (hT : Zx P cfg.tab) (hS : Zbh P cfg.tab cfg.sums) {E : Entry} {ρ0 : Mem} {ops : Array Oper} {Q : Exit → Act → World → Prop} :
    ∀ (l pre : List Oper) (F : Fs) (nid : Nat) (es : List Ent) (M : Mem) (a : Act), ops.toList = pre ++ l → Ents cfg ops.toList F nid l es → RelF cfg.tab E ρ0 M F a → (∀ id, nid ≤ id → F.hp id = none) →
      (∀ o ∈ l, ∀ d, o.dst = some d → d < a.tmps.size) →
      (∀ M' a', RelF cfg.tab E ρ0 M' (Zac F es) a' → a'.tmps.size = a.tmps.size → a'.defers = a.defers → Q .normal a' M'.w) → wpOps P ops Q (List.range' pre.length l.length) a M.w
  | [], pre, F, nid, es, M, a, hl, he, hR, hf, hd, hK => by
    cases he
    exact hK M a hR rfl rfl
  | o :: l, pre, F, nid, es, M, a, hl, he, hR, hf, hd, hK => by
    cases he with
    | @cons _ _ _ _ e es he hes =>
    rw [List.length_cons, List.range'_succ, wpOps_cons]
    have ho : ops[pre.length]? = some o := by
      rw [← Array.getElem?_toList, hl, List.getElem?_append_right (Nat.le_refl _)]; simp
    refine ZmQ hT hS hR ho he (fun id _ hge => hf id hge) (hd o (by simp)) fun M' v hR' hsz hdf => ?_
    have := Zom hT hS l (pre ++ [o]) (ZaM F e) (ZcM nid e.upd) es M' (a.put o.dst v) (by simp [hl]) hes hR' (Zir hf) (fun o' ho' d hd' => by rw [hsz]; exact hd o' (by simp [ho']) d hd')
      fun M'' a'' h1 h2 h3 => hK M'' a'' h1 (h2.trans hsz) (h3.trans hdf)
    simpa using this
theorem Zo0 {cfg : Cfg} (hT : Zx P cfg.tab) (hS : Zbh P cfg.tab cfg.sums) {E : Entry} {ρ0 : Mem} {ops : Array Oper} {Q : Exit → Act → World → Prop} {F : Fs} {nid : Nat} {es : List Ent} {M : Mem} {a : Act} {rid : Nat}
    (he : Ents cfg ops.toList F nid ops.toList es) (hR : RelF cfg.tab E ρ0 M F a) (hf : ∀ id, nid ≤ id → F.hp id = none) (hd : ∀ o ∈ ops.toList, ∀ d, o.dst = some d → d < a.tmps.size)
    (hK : ∀ M' a', RelF cfg.tab E ρ0 M' (Zac F es) a' → a'.tmps.size = a.tmps.size → a'.defers = a.defers → Q .normal a' M'.w) : (Code.region rid ops false).wp P Q a M.w := by
  refine wp_region ?_
  have := Zom hT hS ops.toList [] F nid es M a rfl he hR hf hd hK
  simpa [List.range_eq_range'] using this
def Zch (S : Nat → Bool) : Nat → Fs → List Ent → Fs
  | _, F, [] => F
  | k, F, e :: r => Zch S (k + 1) (if S k then ZaM F e else F) r
theorem ZmR {S : Nat → Bool} : ∀ (es : List Ent) (k : Nat) (F : Fs), (∀ j, j < es.length → S (k + j) = true) → Zch S k F es = Zac F es
  | [], k, F, _ => rfl
  | e :: es, k, F, h => by
    have h0 := h 0 (by simp)
    simp only [Nat.add_zero] at h0
    simp only [Zch, h0, if_true, Zac, List.foldl_cons]
    exact ZmR es (k + 1) (ZaM F e) fun j hj => by rw [show k + 1 + j = k + (j + 1) from by omega]; exact h (j + 1) (by simpa using hj)
theorem ZlL {S : Nat → Bool} : ∀ (es : List Ent) (k : Nat) (F : Fs), (∀ j, j < es.length → S (k + j) = false) → Zch S k F es = F
  | [], k, F, _ => rfl
  | e :: es, k, F, h => by
    have h0 := h 0 (by simp)
    simp only [Nat.add_zero] at h0
    simp only [Zch, h0, Bool.false_eq_true, if_false]
    exact ZlL es (k + 1) F fun j hj => by rw [show k + 1 + j = k + (j + 1) from by omega]; exact h (j + 1) (by simpa using hj)
theorem ZjR {hp hp' : ZaC} {u : List (Nat × Option Blk)} {i : Nat} (h : ∃ p ∈ u, p.1 = i) : ZW hp u i = ZW hp' u i := by
  induction u generalizing hp hp' with
  | nil => obtain ⟨p, hp, _⟩ := h; simp at hp
  | cons p u ih =>
    simp only [ZW]
    by_cases hu : ∃ q ∈ u, q.1 = i
    · exact ih hu
    · have hn : ∀ q ∈ u, q.1 ≠ i := fun q hq e => hu ⟨q, hq, e⟩
      rw [Zcs hn, Zcs hn]
      obtain ⟨q, hq, e⟩ := h
      rcases List.mem_cons.1 hq with rfl | hq
      · simp [e]
      · exact absurd e (hn q hq)
def ZmS (a b : Ent) : Prop := (∀ d, a.dst = some d → b.dst ≠ some d) ∧ ∀ k ∈ a.mods, k ∉ b.mods
theorem ZpJ {F : Fs} {a b : Ent} (h : ZmS a b) : ZaM (ZaM F a) b = ZaM (ZaM F b) a := by
  obtain ⟨h1, h2⟩ := h
  simp only [ZaM, Fs.mk.injEq]
  constructor
  · funext t
    cases ha : a.dst with
    | none => rfl
    | some d =>
      cases hb : b.dst with
      | none => rfl
      | some d' =>
        have hne : d' ≠ d := fun e => h1 d ha (by rw [hb, e])
        simp only [Zf4]
        by_cases e1 : t = d <;> by_cases e2 : t = d' <;> simp_all
  · funext i
    by_cases ka : ∃ p ∈ a.upd, p.1 = i
    · have kb : ∀ p ∈ b.upd, p.1 ≠ i := fun p hp e => by
        obtain ⟨q, hq, e'⟩ := ka
        exact h2 i (List.mem_map.2 ⟨q, hq, e'⟩) (List.mem_map.2 ⟨p, hp, e⟩)
      rw [Zcs kb]
      exact ZjR ka
    · have ka' : ∀ p ∈ a.upd, p.1 ≠ i := fun p hp e => ka ⟨p, hp, e⟩
      rw [Zcs ka']
      by_cases kb : ∃ p ∈ b.upd, p.1 = i
      · exact ZjR kb
      · have kb' : ∀ p ∈ b.upd, p.1 ≠ i := fun p hp e => kb ⟨p, hp, e⟩
        rw [Zcs kb', Zcs kb', Zcs ka']
theorem ZlM {S : Nat → Bool} {x : Ent} : ∀ (es : List Ent) (k : Nat) (F : Fs), (∀ j e, es[j]? = some e → S (k + j) = true → ZmS x e) → Zch S k (ZaM F x) es = ZaM (Zch S k F es) x
  | [], k, F, _ => rfl
  | e :: es, k, F, h => by
    have ih := fun F => ZlM (S := S) (x := x) es (k + 1) F fun j e' hj hs => h (j + 1) e' (by simpa using hj) (by rw [← hs]; congr 1; omega)
    simp only [Zch]
    cases hk : S k with
    | true =>
      simp only [if_true]
      rw [ZpJ (h 0 e rfl (by simpa using hk)), ih]
    | false => simp only [Bool.false_eq_true, if_false]; rw [ih]
theorem ZmT {S S' : Nat → Bool} {x : Ent} : ∀ (es : List Ent) (i k : Nat) (F : Fs), es[i]? = some x → S (k + i) = false → S' (k + i) = true → (∀ j, j ≠ k + i → S' j = S j) →
    (∀ j e, i < j → es[j]? = some e → S (k + j) = true → ZmS x e) → Zch S' k F es = ZaM (Zch S k F es) x
  | [], i, k, F, h, _, _, _, _ => by simp at h
  | e :: es, 0, k, F, h, h1, h2, h3, h4 => by
    simp at h h1 h2; subst h
    simp only [Zch, h1, h2, if_true, Bool.false_eq_true, if_false]
    have : ∀ (l : List Ent) (m : Nat) (G : Fs), k < m → Zch S' m G l = Zch S m G l := by
      intro l
      induction l with
      | nil => intros; rfl
      | cons y l ih => intro m G hm; simp only [Zch]; rw [h3 m (by omega)]; exact ih (m + 1) _ (by omega)
    rw [this es (k + 1) _ (by omega)]
    exact ZlM es (k + 1) F fun j e' hj hs => h4 (j + 1) e' (by omega) (by simpa using hj) (by rw [← hs]; congr 1; omega)
  | e :: es, i + 1, k, F, h, h1, h2, h3, h4 => by
    simp only [Zch]
    rw [h3 k (by omega)]
    exact ZmT es i (k + 1) _ (by simpa using h) (by rw [← h1]; congr 1; omega) (by rw [← h2]; congr 1; omega) (fun j hj => h3 j (by omega))
      fun j e' hij hj hs => h4 (j + 1) e' (by omega) (by simpa using hj) (by rw [← hs]; congr 1; omega)
theorem ZhN {α : Type} {S : Nat → Bool} (obs : Fs → α) (touch : Ent → Prop) (h1 : ∀ F e, ¬touch e → obs (ZaM F e) = obs F) (h2 : ∀ F F' e, obs F = obs F' → obs (ZaM F e) = obs (ZaM F' e)) :
    ∀ (es : List Ent) (m k : Nat) (F F' : Fs), obs F = obs F' → (∀ j e, es[j]? = some e → j < m → S (k + j) = false → ¬touch e) → (∀ j e, es[j]? = some e → m ≤ j → S (k + j) = true → ¬touch e) →
      obs (Zch S k F es) = obs (Zac F' (es.take m))
  | [], m, k, F, F', h, _, _ => by simpa [Zch, Zac] using h
  | e :: es, m, k, F, F', h, h3, h4 => by
    simp only [Zch]
    cases m with
    | zero =>
      have hk : obs (if S k = true then ZaM F e else F) = obs F' := by
        cases hs : S k with
        | true => simp only [if_true]; rw [h1 F e (h4 0 e rfl (Nat.le_refl _) (by simpa using hs))]; exact h
        | false => simpa using h
      have := ZhN obs touch h1 h2 es 0 (k + 1) _ F' hk (fun j e' _ hj _ => by omega) fun j e' hj _ hs => h4 (j + 1) e' (by simpa using hj) (by omega) (by rw [← hs]; congr 1; omega)
      simpa [Zac] using this
    | succ m =>
      have hk : obs (if S k = true then ZaM F e else F) = obs (ZaM F' e) := by
        cases hs : S k with
        | true => simp only [if_true]; exact h2 F F' e h
        | false => simp only [Bool.false_eq_true, if_false]; rw [h1 F' e (h3 0 e rfl (by omega) (by simpa using hs))]; exact h
      have := ZhN obs touch h1 h2 es m (k + 1) _ (ZaM F' e) hk (fun j e' hj hm hs => h3 (j + 1) e' (by simpa using hj) (by omega) (by rw [← hs]; congr 1; omega))
        fun j e' hj hm hs => h4 (j + 1) e' (by simpa using hj) (by omega) (by rw [← hs]; congr 1; omega)
      simpa [Zac] using this
theorem ZpK {S : Nat → Bool} {es : List Ent} {m : Nat} {F : Fs} {t : Nat} (h3 : ∀ j e, es[j]? = some e → j < m → S j = false → e.dst ≠ some t) (h4 : ∀ j e, es[j]? = some e → m ≤ j → S j = true → e.dst ≠ some t) :
    (Zch S 0 F es).sl t = (Zac F (es.take m)).sl t := by
  refine ZhN (fun F => F.sl t) (fun e => e.dst = some t) (fun F e h => ?_) (fun F F' e h => ?_) es m 0 F F rfl (fun j e hj hm hs => h3 j e hj hm (by simpa using hs)) fun j e hj hm hs => h4 j e hj hm (by simpa using hs)
  · simp only [ZaM]
    cases hd : e.dst with
    | none => rfl
    | some d => simp only [Zf4]; rw [if_neg]; intro e'; exact h (by rw [hd, e'])
  · simp only [ZaM]
    cases hd : e.dst with
    | none => exact h
    | some d => simp only [Zf4]; split <;> first | rfl | exact h
theorem ZpL {S : Nat → Bool} {es : List Ent} {m : Nat} {F : Fs} {i : Nat} (h3 : ∀ j e, es[j]? = some e → j < m → S j = false → i ∉ e.mods) (h4 : ∀ j e, es[j]? = some e → m ≤ j → S j = true → i ∉ e.mods) :
    (Zch S 0 F es).hp i = (Zac F (es.take m)).hp i := by
  refine ZhN (fun F => F.hp i) (fun e => i ∈ e.mods) (fun F e h => ?_) (fun F F' e h => ?_) es m 0 F F rfl (fun j e hj hm hs => h3 j e hj hm (by simpa using hs)) fun j e hj hm hs => h4 j e hj hm (by simpa using hs)
  · exact Zcs fun p hp e' => h (List.mem_map.2 ⟨p, hp, e'⟩)
  · by_cases hk : i ∈ e.mods
    · obtain ⟨p, hp, e'⟩ := List.mem_map.1 hk
      exact ZjR ⟨p, hp, e'⟩
    · have hn : ∀ p ∈ e.upd, p.1 ≠ i := fun p hp e' => hk (List.mem_map.2 ⟨p, hp, e'⟩)
      show ZW F.hp e.upd i = ZW F'.hp e.upd i
      rw [Zcs hn, Zcs hn]; exact h
theorem ZmU (g : Nat → Nat) : ∀ (l : List Edge) (s i : Nat), (l.foldl (fun s e => if Region.binds .any e then s ||| 2 ^ e.on ||| g e.on else s) s).testBit i = true →
    s.testBit i = true ∨ ∃ e ∈ l, Region.binds .any e = true ∧ (i = e.on ∨ (g e.on).testBit i = true)
  | [], s, i, h => .inl h
  | e :: l, s, i, h => by
    rcases ZmU g l _ i h with h | ⟨e', he, hb, h⟩
    · dsimp only at h
      cases hb : Region.binds .any e with
      | false => rw [hb] at h; exact .inl h
      | true =>
        rw [hb] at h
        simp only [if_true, Nat.testBit_or, Nat.testBit_two_pow, Bool.or_eq_true, decide_eq_true_eq] at h
        rcases h with (h | h) | h
        · exact .inl h
        · exact .inr ⟨e, by simp, hb, .inl h.symm⟩
        · exact .inr ⟨e, by simp, hb, .inr h⟩
    · exact .inr ⟨e', by simp [he], hb, h⟩
theorem Zju {ops : Array Oper} {S : Nat → Prop} (hS : ∀ j o, ops[j]? = some o → S j → ∀ e ∈ o.after, Region.binds .any e = true → S e.on) {j i : Nat} (hj : S j) (h : ((Region.before ops).getD j 0).testBit i = true) : S i := by
  have key : ∀ (l : List Oper) (acc : Array Nat), (∃ pre, ops.toList = pre ++ l ∧ pre.length = acc.size) → (∀ j i, S j → (acc.getD j 0).testBit i = true → S i) →
      ∀ j i, S j → ((l.foldl (fun acc o => acc.push (o.after.foldl (fun s e => if Region.binds .any e then s ||| 2 ^ e.on ||| acc.getD e.on 0 else s) 0)) acc).getD j 0).testBit i = true → S i := by
    intro l
    induction l with
    | nil => intro acc _ h; exact h
    | cons o l ih =>
      rintro acc ⟨pre, hp, hl⟩ hacc
      refine ih _ ⟨pre ++ [o], by simp [hp], by simp [hl]⟩ fun j i hj hb => ?_
      by_cases hjs : j = acc.size
      · subst hjs
        simp only [Array.getD_eq_getD_getElem?, Array.getElem?_push_size, Option.getD_some] at hb
        rw [← Array.foldl_toList] at hb
        have ho : ops[acc.size]? = some o := by
          rw [← Array.getElem?_toList, hp, ← hl, List.getElem?_append_right (Nat.le_refl _)]; simp
        rcases ZmU (fun k => acc.getD k 0) o.after.toList 0 i (by simpa [Array.getD_eq_getD_getElem?] using hb) with hz | ⟨e, he, hbd, hq⟩
        · simp at hz
        · have hon := hS _ o ho hj e (by simpa using he) hbd
          rcases hq with rfl | hq
          · exact hon
          · exact hacc _ _ hon hq
      · refine hacc j i hj ?_
        rw [← hb]
        congr 1
        simp only [Array.getD_eq_getD_getElem?, Array.getElem?_push, if_neg hjs]
  have := key ops.toList #[] ⟨[], by simp, rfl⟩ (by simp) j i hj
  refine this ?_
  unfold Region.before at h
  rw [← Array.foldl_toList] at h
  exact h
end
end Go.Eng
namespace Go.Eng
section
def Local {α : Type} (m : RM α) : Prop := ∀ h h' a l, m h = some (a, l) → (∀ i ∈ l, h' i = h i) → m h' = some (a, l)
theorem Local.ret {α : Type} (a : α) : Local (RM.ret a) := fun h h' b l e _ => by
  cases Zk (h := h) e; rfl
theorem Local.fail {α : Type} : Local (RM.fail : RM α) := fun h h' b l e _ => (Zl (h := h) e).elim
theorem Local.lift {α : Type} (o : Option α) : Local (RM.lift o) := by
  cases o with
  | none => exact .fail
  | some a => exact .ret a
theorem Local.bind {α β : Type} {m : RM α} {f : α → RM β} (hm : Local m) (hf : ∀ a, Local (f a)) : Local (RM.bind m f) := fun h h' b l e k => by
  obtain ⟨a, l1, b', l2, h1, h2, h3⟩ := Zi e
  cases h3
  have e1 := hm h h' a l1 h1 fun i hi => k i (List.mem_append_left _ hi)
  have e2 := hf a h h' b l2 h2 fun i hi => k i (List.mem_append_right _ hi)
  rw [rm_at] at e1 e2 ⊢
  obtain ⟨c1, e1, f1⟩ := e1
  obtain ⟨c2, e2, f2⟩ := e2
  exact ⟨c1 ++ c2, by simp only [RM.bind, e1, e2], by rw [Zjj, f1, f2]; rfl⟩
theorem Local.test {α : Type} {m : RM α} (b : Bool) (hm : Local m) : Local (RM.test b m) := fun h h' a l e k => by
  obtain ⟨h1, h2⟩ := Zv e
  have e1 := hm h h' a l h2 k
  rw [rm_at] at e1 ⊢
  obtain ⟨c1, e1, f1⟩ := e1
  exact ⟨b :: c1, by simp only [RM.test, e1], by simp [ZdP, h1, f1]⟩
theorem Local.get (i : Nat) : Local (RM.get i) := fun h h' b l e k => by
  obtain ⟨h1, h2⟩ := ZaD e
  dsimp only at h1 h2
  subst h2
  rw [rm_at]
  exact ⟨[], by simp only [RM.get, k i (by simp), h1], rfl⟩
theorem Zs (x : V) : Local (ZdR x) := by
  unfold ZdR
  repeat' (first | assumption | exact Local.ret _ | exact Local.fail | exact Local.lift _ | exact Local.get _ | refine Local.bind ?_ (fun _ => ?_) | refine Local.test _ ?_ | split)
theorem ZG {f : V → RM (V × List Nat)} (hf : ∀ v, Local (f v)) : ∀ xs, Local (ZbV f xs)
  | [] => .ret _
  | x :: xs => .bind (hf x) fun _ => .bind (ZG hf xs) fun _ => .ret _
theorem ZF (x : V) : Local (ZdE x) := by
  unfold ZdE
  repeat' (first | assumption | exact Local.ret _ | exact Local.fail | exact Local.lift _ | exact Local.get _ | exact ZG Zs _ | apply Zs | refine Local.bind ?_ (fun _ => ?_) | refine Local.test _ ?_ | split)
theorem Zab (x : V) : Local (view x) := by
  unfold view
  repeat' (first | assumption | exact Local.ret _ | exact Local.fail | exact Local.lift _ | exact Local.get _ | exact ZG Zs _ | exact ZG ZF _ | apply Zs | apply ZF | refine Local.bind ?_ (fun _ => ?_) | refine Local.test _ ?_ | split)
theorem ZK (tab : Tab) (x : V) : Local (ZiT tab x) := by
  unfold ZiT
  repeat' (first | assumption | exact Local.ret _ | exact Local.fail | exact Local.lift _ | exact Local.get _ | exact ZG Zs _ | apply Zs | apply ZF | apply Zab | refine Local.bind ?_ (fun _ => ?_) | refine Local.test _ ?_ | split)
theorem ZP (tab : Tab) : ∀ xs, Local (Zhe tab xs)
  | [] => .ret _
  | x :: xs => .bind (ZK tab x) fun _ => .bind (ZP tab xs) fun _ => .ret _
theorem Z0 (x : V) : Local (ZbW x) := by
  unfold ZbW
  repeat' (first | assumption | exact Local.ret _ | exact Local.fail | exact Local.lift _ | exact Local.get _ | exact ZG Zs _ | apply Zs | apply ZF | apply Zab | apply ZK | apply ZP | refine Local.bind ?_ (fun _ => ?_) | refine Local.test _ ?_ | split)
theorem ZR (m : TypeId → List V → V) (x : V) : Local (Zc4 m x) := by
  unfold Zc4
  repeat' (first | assumption | exact Local.ret _ | exact Local.fail | exact Local.lift _ | exact Local.get _ | exact ZG Zs _ | exact ZG Z0 _ | apply Zs | apply ZF | apply Zab | apply ZK | apply ZP | apply Z0 | refine Local.bind ?_ (fun _ => ?_) | refine Local.test _ ?_ | split)
theorem ZaE (x : V) : Local (lenV x) := by
  unfold lenV
  repeat' (first | assumption | exact Local.ret _ | exact Local.fail | exact Local.lift _ | exact Local.get _ | exact ZG Zs _ | apply Zs | apply ZF | apply Zab | apply ZK | apply ZP | apply Z0 | apply ZR | refine Local.bind ?_ (fun _ => ?_) | refine Local.test _ ?_ | split)
theorem ZaO (e : TypeId) (ty : Ty) (x : V) : Local (ZeM e ty x) := by
  unfold ZeM
  repeat' (first | assumption | exact Local.ret _ | exact Local.fail | exact Local.lift _ | exact Local.get _ | exact ZG Zs _ | apply Zs | apply ZF | apply Zab | apply ZK | apply ZP | apply Z0 | apply ZR | apply ZaE | refine Local.bind ?_ (fun _ => ?_) | refine Local.test _ ?_ | split)
theorem ZaK (tab : Tab) (t : TypeId) (p : V) : Local (ZgL tab t p) := by
  unfold ZgL
  repeat' (first | assumption | exact Local.ret _ | exact Local.fail | exact Local.lift _ | exact Local.get _ | exact ZG Zs _ | apply Zs | apply ZF | apply Zab | apply ZK | apply ZP | apply Z0 | apply ZR | apply ZaE | apply ZaO | refine Local.bind ?_ (fun _ => ?_) | refine Local.test _ ?_ | split)
theorem ZaF (tab : Tab) (t : TypeId) (p v : V) : Local (Zhf tab t p v) := by
  unfold Zhf
  repeat' (first | assumption | exact Local.ret _ | exact Local.fail | exact Local.lift _ | exact Local.get _ | exact ZG Zs _ | apply Zs | apply ZF | apply Zab | apply ZK | apply ZP | apply Z0 | apply ZR | apply ZaE | apply ZaO | apply ZaK | refine Local.bind ?_ (fun _ => ?_) | refine Local.test _ ?_ | split)
theorem Z7 (tab : Tab) (t : TypeId) (x i : V) : Local (Zee tab t x i) := by
  unfold Zee
  repeat' (first | assumption | exact Local.ret _ | exact Local.fail | exact Local.lift _ | exact Local.get _ | exact ZG Zs _ | apply Zs | apply ZF | apply Zab | apply ZK | apply ZP | apply Z0 | apply ZR | apply ZaE | apply ZaO | apply ZaK | apply ZaF | refine Local.bind ?_ (fun _ => ?_) | refine Local.test _ ?_ | split)
theorem ZaR (d n : Nat) (x : Option V) : Local (Zdu d n x) := by
  unfold Zdu
  repeat' (first | exact Local.ret _ | exact Local.fail | refine Local.test _ ?_ | split)
theorem Za6 (tab : Tab) (t : TypeId) (x : V) (lo hi mx : Option V) : Local (Zib tab t x lo hi mx) := by
  unfold Zib
  repeat' (first | assumption | exact ZaR _ _ _ | exact Local.ret _ | exact Local.fail | exact Local.lift _ | exact Local.get _ | exact ZG Zs _ | apply Zs | apply ZF | apply Zab | apply ZK | apply ZP | apply Z0 | apply ZR | apply ZaE | apply ZaO | apply ZaK | apply ZaF | apply Z7 | refine Local.bind ?_ (fun _ => ?_) | refine Local.test _ ?_ | split)
theorem Zbi (tab : Tab) (t : TypeId) (x : V) (lo hi mx : Option V) : Local (ZfT tab t x lo hi mx) := by
  unfold ZfT
  repeat' (first | assumption | exact ZaR _ _ _ | exact Local.ret _ | exact Local.fail | exact Local.lift _ | exact Local.get _ | exact ZG Zs _ | apply Zs | apply ZF | apply Zab | apply ZK | apply ZP | apply Z0 | apply ZR | apply ZaE | apply ZaO | apply ZaK | apply ZaF | apply Z7 | apply Za6 | refine Local.bind ?_ (fun _ => ?_) | refine Local.test _ ?_ | split)
theorem ZbD (e : TypeId) (x : V) : Local (baseV e x) := by
  unfold baseV
  repeat' (first | assumption | exact ZaR _ _ _ | exact Local.ret _ | exact Local.fail | exact Local.lift _ | exact Local.get _ | exact ZG Zs _ | apply Zs | apply ZF | apply Zab | apply ZK | apply ZP | apply Z0 | apply ZR | apply ZaE | apply ZaO | apply ZaK | apply ZaF | apply Z7 | apply Za6 | apply Zbi | refine Local.bind ?_ (fun _ => ?_) | refine Local.test _ ?_ | split)
theorem ZbZ (e : TypeId) (ty : Ty) (x : V) : Local (Zkf e ty x) := by
  unfold Zkf
  repeat' (first | assumption | exact ZaR _ _ _ | exact Local.ret _ | exact Local.fail | exact Local.lift _ | exact Local.get _ | exact ZG Zs _ | apply Zs | apply ZF | apply Zab | apply ZK | apply ZP | apply Z0 | apply ZR | apply ZaE | apply ZaO | apply ZaK | apply ZaF | apply Z7 | apply Za6 | apply Zbi | apply ZbD | refine Local.bind ?_ (fun _ => ?_) | refine Local.test _ ?_ | split)
theorem ZbN (tab : Tab) (t t2 : TypeId) (nid : Nat) (s x : V) : Local (Zft tab t t2 nid s x) := by
  unfold Zft
  repeat' (first | assumption | exact ZaR _ _ _ | exact Local.ret _ | exact Local.fail | exact Local.lift _ | exact Local.get _ | exact ZG Zs _ | apply Zs | apply ZF | apply Zab | apply ZK | apply ZP | apply Z0 | apply ZR | apply ZaE | apply ZaO | apply ZaK | apply ZaF | apply Z7 | apply Za6 | apply Zbi | apply ZbD | apply ZbZ | refine Local.bind ?_ (fun _ => ?_) | refine Local.test _ ?_ | split)
theorem ZcX (tab : Tab) (t : TypeId) (d s : V) : Local (Zkg tab t d s) := by
  unfold Zkg
  repeat' (first | assumption | exact ZaR _ _ _ | exact Local.ret _ | exact Local.fail | exact Local.lift _ | exact Local.get _ | exact ZG Zs _ | apply Zs | apply ZF | apply Zab | apply ZK | apply ZP | apply Z0 | apply ZR | apply ZaE | apply ZaO | apply ZaK | apply ZaF | apply Z7 | apply Za6 | apply Zbi | apply ZbD | apply ZbZ | apply ZbN | refine Local.bind ?_ (fun _ => ?_) | refine Local.test _ ?_ | split)
theorem Zc6 (tab : Tab) (t : TypeId) (d : V) : Local (Zic tab t d) := by
  unfold Zic
  repeat' (first | assumption | exact ZaR _ _ _ | exact Local.ret _ | exact Local.fail | exact Local.lift _ | exact Local.get _ | exact ZG Zs _ | apply Zs | apply ZF | apply Zab | apply ZK | apply ZP | apply Z0 | apply ZR | apply ZaE | apply ZaO | apply ZaK | apply ZaF | apply Z7 | apply Za6 | apply Zbi | apply ZbD | apply ZbZ | apply ZbN | apply ZcX | refine Local.bind ?_ (fun _ => ?_) | refine Local.test _ ?_ | split)
theorem Zct (tab : Tab) (t : TypeId) (nid : Nat) (n c : V) : Local (Zdn tab t nid n c) := by
  unfold Zdn
  repeat' (first | assumption | exact ZaR _ _ _ | exact Local.ret _ | exact Local.fail | exact Local.lift _ | exact Local.get _ | exact ZG Zs _ | apply Zs | apply ZF | apply Zab | apply ZK | apply ZP | apply Z0 | apply ZR | apply ZaE | apply ZaO | apply ZaK | apply ZaF | apply Z7 | apply Za6 | apply Zbi | apply ZbD | apply ZbZ | apply ZbN | apply ZcX | apply Zc6 | refine Local.bind ?_ (fun _ => ?_) | refine Local.test _ ?_ | split)
theorem Zcn (tab : Tab) (ty : Ty) : ∀ (ps : List (Nat × V)) (acc : List V), Local (Zfu tab ty acc ps)
  | [], _ => .ret _
  | (i, v) :: r, acc => .bind (ZP tab v.cells) fun _ => .test _ (.bind (Zcn tab ty r _) fun _ => .ret _)
theorem Zmf (id off : Nat) : Local (Zhg id off) := by
  cases off with
  | zero => exact ZR .rf (.bp id 0)
  | succ off => exact .bind (ZR .rf (.bp id 0)) fun _ => .ret _
theorem Zfe (w q : Bool) (x : V) : Local (argV w q x) := by
  unfold argV
  repeat' (first | assumption | exact ZaR _ _ _ | exact Local.ret _ | exact Local.fail | exact Local.lift _ | exact Local.get _ | exact ZG Zs _ | exact ZG Z0 _ | apply Zs | apply ZF | apply Zab | apply ZK | apply ZP | apply Z0 | apply ZR | apply Zmf | apply ZaE | apply ZaO | apply ZaK | apply ZaF | apply Z7 | apply Za6 | apply Zbi | apply ZbD | apply ZbZ | apply ZbN | apply ZcX | apply Zc6 | apply Zct | apply Zcn | refine Local.bind ?_ (fun _ => ?_) | refine Local.test _ ?_ | split)
theorem Zeu (w q : Bool) : ∀ xs, Local (Zkh w q xs)
  | [] => .ret _
  | x :: xs => .bind (Zfe w q x) fun _ => .bind (Zeu w q xs) fun _ => .ret _
theorem updH_at {hp hp' : ZaC} {u : List (Nat × Option Blk)} {i : Nat} (h : hp' i = hp i) : ZW hp' u i = ZW hp u i := by
  induction u generalizing hp hp' with
  | nil => exact h
  | cons p u ih =>
    refine ih ?_
    by_cases e : i = p.1
    · simp [e]
    · simp [e, h]
theorem Local.on {α : Type} {m : RM α} (u : List (Nat × Option Blk)) (hm : Local m) : Local (RM.on u m) := fun h h' a l e k => hm (ZW h u) (ZW h' u) a l e fun i hi => updH_at (k i hi)
theorem Zjv (tab : Tab) (id : Nat) : Local (Zkl tab id) := by
  unfold Zkl
  repeat' (first | assumption | exact Local.ret _ | exact Local.fail | exact Local.lift _ | exact Local.get _ | refine Local.bind ?_ (fun _ => ?_) | refine Local.test _ ?_ | split)
theorem ZnT (tab : Tab) (nid : Nat) (t : TypeId) (p : V) : Local (ZiV tab nid t p) := by
  unfold ZiV
  repeat' (first | assumption | exact Local.ret _ | exact Local.fail | exact Local.lift _ | exact Local.get _ | apply ZaK | apply Zjv | refine Local.on _ ?_ | refine Local.bind ?_ (fun _ => ?_) | refine Local.test _ ?_ | split)
theorem ZmV (tab : Tab) (t : TypeId) (p v : V) : Local (Zgp tab t p v) := by
  unfold Zgp
  repeat' (first | assumption | exact Local.ret _ | exact Local.fail | exact Local.lift _ | exact Local.get _ | apply ZaF | apply Zjv | refine Local.on _ ?_ | refine Local.bind ?_ (fun _ => ?_) | refine Local.test _ ?_ | split)
theorem Zg7 (cfg : Cfg) (nid : Nat) (f : FuncId) (aw : List V) : Local (Zki cfg nid f aw) := by
  unfold Zki
  repeat' (first | assumption | exact ZaR _ _ _ | exact Local.ret _ | exact Local.fail | exact Local.lift _ | exact Local.get _ | exact ZG Zs _ | apply Zs | apply ZF | apply Zab | apply ZK | apply ZP | apply Z0 | apply ZR | apply ZaE | apply ZaO | apply ZaK | apply ZaF | apply Z7 | apply Za6 | apply Zbi | apply ZbD | apply ZbZ | apply ZbN | apply ZcX | apply Zc6 | apply Zct | apply Zcn | apply Zfe | apply Zeu | refine Local.bind ?_ (fun _ => ?_) | refine Local.test _ ?_ | split)
theorem Ziu (tab : Tab) (a b : TypeId) (x : Nat) : Local (Zid tab a b x) := by
  unfold Zid
  repeat' (first | assumption | exact Local.ret _ | exact Local.fail | exact Local.lift _ | exact Local.get _ | refine Local.bind ?_ (fun _ => ?_) | refine Local.test _ ?_ | split)
theorem Zjw (tab : Tab) (a b : TypeId) (x : V) : Local (ZgM tab a b x) := by
  unfold ZgM
  repeat' (first | assumption | exact ZaR _ _ _ | exact Local.ret _ | exact Local.fail | exact Local.lift _ | exact Local.get _ | exact ZG Zs _ | apply Zs | apply ZF | apply Zab | apply ZK | apply ZP | apply Z0 | apply ZR | apply ZaE | apply ZaO | apply ZaK | apply ZaF | apply Z7 | apply Za6 | apply Zbi | apply ZbD | apply ZbZ | apply ZbN | apply ZcX | apply Zc6 | apply Zct | apply Zcn | apply Zfe | apply Zeu | apply Zg7 | refine Local.bind ?_ (fun _ => ?_) | refine Local.test _ ?_ | split)
theorem Zlu (cfg : Cfg) (nid : Nat) (b : Builtin) (ts : List TypeId) (aw : List V) : Local (ZeN cfg nid b ts aw) := by
  unfold ZeN
  repeat' (first | assumption | exact ZaR _ _ _ | exact Local.ret _ | exact Local.fail | exact Local.lift _ | exact Local.get _ | exact ZG Zs _ | apply Zs | apply ZF | apply Zab | apply ZK | apply ZP | apply Z0 | apply ZR | apply ZaE | apply ZaO | apply ZaK | apply ZaF | apply Z7 | apply Za6 | apply Zbi | apply ZbD | apply ZbZ | apply ZbN | apply ZcX | apply Zc6 | apply Zct | apply Zcn | apply Zfe | apply Zeu | apply Zg7 | apply Zjw | apply Ziu | refine Local.bind ?_ (fun _ => ?_) | refine Local.test _ ?_ | split)
theorem Zjx (cfg : Cfg) (nid : Nat) (o : Oper) (ev : Operand → V) : Local (ZbP cfg nid o ev) := by
  unfold ZbP
  dsimp only
  repeat' (first | assumption | exact ZaR _ _ _ | exact Local.ret _ | exact Local.fail | exact Local.lift _ | exact Local.get _ | exact ZG Zs _ | apply Zs | apply ZF | apply Zab | apply ZK | apply ZP | apply Z0 | apply ZR | apply ZaE | apply ZaO | apply ZnT | apply ZmV | apply Z7 | apply Za6 | apply Zbi | apply ZbD | apply ZbZ | apply ZbN | apply ZcX | apply Zc6 | apply Zct | apply Zcn | apply Zfe | apply Zeu | apply Zg7 | apply Zjw | apply Ziu | apply Zlu | refine Local.bind ?_ (fun _ => ?_) | refine Local.test _ ?_ | split)
theorem Zh6 {ev ev' : Operand → V} {ps : Array (Nat × Operand)} (h : ∀ x ∈ ps.map (·.2), ev x = ev' x) : Zcl ev ps = Zcl ev' ps := by
  refine List.map_congr_left fun p hp => ?_
  rw [h p.2 (Array.mem_map.2 ⟨p, by simpa using hp, rfl⟩)]
theorem Ziv {ev ev' : Operand → V} {xs : Array Operand} (h : ∀ x ∈ xs, ev x = ev' x) : xs.toList.map ev = xs.toList.map ev' :=
  List.map_congr_left fun x hx => h x (by simpa using hx)
theorem Zjy {ev ev' : Operand → V} (cfg : Cfg) (nid : Nat) (o : Oper) (h : ∀ x ∈ o.op.operands, ev x = ev' x) : ZbP cfg nid o ev = ZbP cfg nid o ev' := by
  obtain ⟨dst, op, type, pos, after, guard⟩ := o
  have h' : ∀ x ∈ op.operands, sft ev x = sft ev' x := fun x hx => by unfold sft; rw [h x hx]
  cases op <;> simp only [Op.operands] at h h' <;> simp only [ZbP]
  case build t ps => rw [Zh6 fun x hx => h' x (by simpa using hx)]
  case buildSlice t n ps => rw [Zh6 fun x hx => h' x (by simpa using hx)]
  case makeFunc fn first captured =>
    cases fn <;> simp only []
    rw [Ziv (xs := captured) fun x hx => h' x (by simp [hx])]
  case call c =>
    have ha : c.args.toList.map (sft ev) = c.args.toList.map (sft ev') := Ziv fun x hx => h' x (by simp [Call.operands, hx])
    rw [ha]
    cases hc : c.callee with
    | value f => have hf : sft ev f = sft ev' f := h' f (by simp [Call.operands, hc]); simp only [hf]
    | _ => rfl
  case slice t x lo hi mx => cases lo <;> cases hi <;> cases mx <;> simp_all
  all_goals (first | rfl | (simp_all; done))
end
end Go.Eng
