/- An own evaluator of the program's form, proved sound, and what it says of this law's functions: part 5. -/
import Derived.Test.YtmkjebekmeefcaaGreatE4
set_option linter.unusedVariables false
open Go Go.Eng
namespace Go.Eng.R
def fillTo (l : List V) (x : V) (i : Nat) : List V := List.replicate i x ++ l.drop i
theorem fillTo_len {l : List V} {x : V} {i : Nat} (h : i ≤ l.length) : (fillTo l x i).length = l.length := by simp [fillTo]; omega
theorem fillTo_set {l : List V} {x : V} {i : Nat} (h : i < l.length) : (fillTo l x i).set i x = fillTo l x (i + 1) := by
  unfold fillTo
  rw [List.set_append_right _ _ (by simp), List.length_replicate, Nat.sub_self, List.drop_eq_getElem_cons h, List.set_cons_zero, List.replicate_succ', List.append_assoc, List.singleton_append]
theorem fillTo_all (l : List V) (x : V) : fillTo l x l.length = List.replicate l.length x := by simp [fillTo]
def cntT : List V → Nat
  | [] => 0
  | x :: l => (bif gb x 0 then 1 else 0) + cntT l
theorem cntT_append (a b : List V) : cntT (a ++ b) = cntT a + cntT b := by induction a <;> simp_all [cntT]; omega
theorem cntT_succ {l : List V} {i : Nat} (h : i < l.length) : cntT (l.take (i + 1)) = cntT (l.take i) + (bif gb (rd l i) 0 then 1 else 0) := by
  rw [take_rd h, cntT_append]; simp [cntT]
theorem cntT_le (l : List V) : cntT l ≤ l.length := by
  induction l with
  | nil => simp [cntT]
  | cons x l ih => simp only [cntT, List.length_cons]; cases gb x 0 <;> simp <;> omega
theorem impl_votes_run {s : ND} {out : List V} (hl : s.votes.length ≤ 1000) : impl_server_lead_l2 (s.votes.length + 1) 0 (s.votes.length : Int) 0 (s.b 2 1 3 4 5) s.votes s.log s.next s.mtch out =
    some (((cntT s.votes : Nat) : Int), s.b 1 2 3 4 5, s.log, s.votes, s.next, s.mtch, out) := by
  refine loop_run0 (F := fun m c i => impl_server_lead_l2 m c (s.votes.length : Int) i (s.b 2 1 3 4 5) s.votes s.log s.next s.mtch out) (n := s.votes.length) (fun i c => c = ((cntT (s.votes.take i) : Nat) : Int)) (fun o => o = some (((cntT s.votes : Nat) : Int), s.b 1 2 3 4 5, s.log, s.votes, s.next, s.mtch, out)) ?_ ?_ (by simp [cntT])
  · intro m i c hi hI
    have hle := cntT_le (s.votes.take i)
    simp only [List.length_take] at hle
    refine .inl ⟨_, ?_, (rfl : ((cntT (s.votes.take (i + 1)) : Nat) : Int) = ((cntT (s.votes.take (i + 1)) : Nat) : Int))⟩
    show impl_server_lead_l2 (m + 1) c _ (i : Int) _ _ _ _ _ _ = _
    rw [impl_server_lead_l2, cntT_succ hi]
    simp only [lt_nat hi, idxOk_nat hi, Int.toNat_natCast, Nat.zero_add, cond_true, wr_succ hi (show s.votes.length ≤ 9223372036854775807 by omega)]
    cases h : gb (rd s.votes i) 0 with
    | true =>
      simp only [cond_true]
      rw [wr64' (by omega) (by omega), hI, show ((cntT (s.votes.take i) : Nat) : Int) + 1 = ((cntT (s.votes.take i) + 1 : Nat) : Int) from by omega]
      rfl
    | false =>
      simp only [cond_false, Nat.add_zero]
      rw [hI]; rfl
  · intro m c hI
    rw [List.take_length] at hI
    show impl_server_lead_l2 (m + 1) c _ _ _ _ _ _ _ _ = _
    rw [impl_server_lead_l2, lt_self, hI]; rfl
theorem spec_votes_run {s : ND} (hl : s.votes.length ≤ 1000) : spec_l4lead_l3 (s.votes.length + 1) 0 0 (s.c 1 2 3 4) s.log s.votes s.next s.mtch = some (((cntT s.votes : Nat) : Int), s.c 1 2 3 4, s.log, s.votes, s.next, s.mtch) := by
  refine loop_run0 (F := fun m c i => spec_l4lead_l3 m c i (s.c 1 2 3 4) s.log s.votes s.next s.mtch) (n := s.votes.length) (fun i c => c = ((cntT (s.votes.take i) : Nat) : Int)) (fun o => o = some (((cntT s.votes : Nat) : Int), s.c 1 2 3 4, s.log, s.votes, s.next, s.mtch)) ?_ ?_ (by simp [cntT])
  · intro m i c hi hI
    have hle := cntT_le (s.votes.take i)
    simp only [List.length_take] at hle
    refine .inl ⟨_, ?_, (rfl : ((cntT (s.votes.take (i + 1)) : Nat) : Int) = ((cntT (s.votes.take (i + 1)) : Nat) : Int))⟩
    show spec_l4lead_l3 (m + 1) c (i : Int) _ _ _ _ _ = _
    rw [spec_l4lead_l3, cntT_succ hi]
    simp only [lt_nat hi, idxOk_nat hi, Int.toNat_natCast, Nat.zero_add, cond_true, wr_succ hi (show s.votes.length ≤ 9223372036854775807 by omega)]
    cases h : gb (rd s.votes i) 0 with
    | true =>
      simp only [cond_true]
      rw [wr64' (by omega) (by omega), hI, show ((cntT (s.votes.take i) : Nat) : Int) + 1 = ((cntT (s.votes.take i) + 1 : Nat) : Int) from by omega]
      rfl
    | false =>
      simp only [cond_false, Nat.add_zero]
      rw [hI]; rfl
  · intro m c hI
    rw [List.take_length] at hI
    show spec_l4lead_l3 (m + 1) c _ _ _ _ _ _ = _
    rw [spec_l4lead_l3, lt_self, hI]; rfl
def nextX (s : ND) : V := V.int .i64 (((s.log.length : Nat) : Int) + 1)
def ND.fresh (s : ND) : ND := { s with next := List.replicate s.next.length (nextX s), mtch := List.replicate s.mtch.length (V.int .i64 0) }
theorem impl_fresh_run {s : ND} {out : List V} (hl : s.next.length ≤ 1000) (hL : s.log.length ≤ 1000) (hm : s.mtch.length = s.next.length) : impl_server_lead_l10 (s.next.length + 1) (s.next.length : Int) 0 (s.b 1 2 3 4 5) s.log s.votes s.next s.mtch out =
    some (s.b 1 2 3 4 5, s.log, s.votes, s.fresh.next, s.fresh.mtch, out) := by
  refine loop_run0 (F := fun m (r : List V × List V) i => impl_server_lead_l10 m (s.next.length : Int) i (s.b 1 2 3 4 5) s.log s.votes r.1 r.2 out) (n := s.next.length) (fun i r => r = (fillTo s.next (nextX s) i, fillTo s.mtch (V.int .i64 0) i)) (fun o => o = some (s.b 1 2 3 4 5, s.log, s.votes, s.fresh.next, s.fresh.mtch, out)) ?_ ?_ (s := (s.next, s.mtch)) rfl
  · intro m i r hi hI
    subst hI
    refine .inl ⟨_, ?_, rfl⟩
    show impl_server_lead_l10 (m + 1) _ (i : Int) _ _ _ _ _ _ = _
    rw [impl_server_lead_l10, ← fillTo_set hi, ← fillTo_set (l := s.mtch) (by omega)]
    rw [show idxOk ((i : Nat) : Int) (fillTo s.next (nextX s) i).length = true from idxOk_nat (by rw [fillTo_len (by omega)]; exact hi), show idxOk ((i : Nat) : Int) (fillTo s.mtch (V.int .i64 0) i).length = true from idxOk_nat (by rw [fillTo_len (by omega)]; omega)]
    simp only [lt_nat hi, Int.toNat_natCast, Nat.zero_add, cond_true, wr_succ hi (show s.next.length ≤ 9223372036854775807 by omega)]
    rw [wr64' (n := ((s.log.length : Nat) : Int) + 1) (by omega) (by omega)]
    rfl
  · intro m r hI
    subst hI
    show impl_server_lead_l10 (m + 1) _ _ _ _ _ _ _ _ = _
    have e2 : fillTo s.mtch (V.int .i64 0) s.next.length = List.replicate s.mtch.length (V.int .i64 0) := by rw [← hm]; exact fillTo_all _ _
    rw [impl_server_lead_l10, lt_self, fillTo_all, e2]; rfl
theorem spec_fresh_run {s : ND} (hl : s.next.length ≤ 1000) (hL : s.log.length ≤ 1000) (hm : s.mtch.length = s.next.length) : spec_l4lead_l13 (s.next.length + 1) 0 (s.c 1 2 3 4) s.log s.votes s.next s.mtch =
    some (s.c 1 2 3 4, s.log, s.votes, s.fresh.next, s.fresh.mtch) := by
  refine loop_run0 (F := fun m (r : List V × List V) i => spec_l4lead_l13 m i (s.c 1 2 3 4) s.log s.votes r.1 r.2) (n := s.next.length) (fun i r => r = (fillTo s.next (nextX s) i, fillTo s.mtch (V.int .i64 0) i)) (fun o => o = some (s.c 1 2 3 4, s.log, s.votes, s.fresh.next, s.fresh.mtch)) ?_ ?_ (s := (s.next, s.mtch)) rfl
  · intro m i r hi hI
    subst hI
    refine .inl ⟨_, ?_, rfl⟩
    show spec_l4lead_l13 (m + 1) (i : Int) _ _ _ _ _ = _
    rw [spec_l4lead_l13, ← fillTo_set hi, ← fillTo_set (l := s.mtch) (by omega)]
    have hlen : (fillTo s.next (nextX s) i).length = s.next.length := fillTo_len (by omega)
    rw [hlen, show idxOk ((i : Nat) : Int) s.next.length = true from idxOk_nat hi, show idxOk ((i : Nat) : Int) (fillTo s.mtch (V.int .i64 0) i).length = true from idxOk_nat (by rw [fillTo_len (by omega)]; omega)]
    simp only [lt_nat hi, Int.toNat_natCast, Nat.zero_add, cond_true, wr_succ hi (show s.next.length ≤ 9223372036854775807 by omega)]
    rw [wr64' (n := ((s.log.length : Nat) : Int) + 1) (by omega) (by omega)]
    rfl
  · intro m r hI
    subst hI
    show spec_l4lead_l13 (m + 1) _ _ _ _ _ _ = _
    have hlen : (fillTo s.next (nextX s) s.next.length).length = s.next.length := fillTo_len (by omega)
    have e2 : fillTo s.mtch (V.int .i64 0) s.next.length = List.replicate s.mtch.length (V.int .i64 0) := by rw [← hm]; exact fillTo_all _ _
    rw [spec_l4lead_l13, hlen, lt_self, fillTo_all, e2]; rfl
def noopI (t : Int) : V := V.agg [(V.int .i64 t), (V.int .i64 (-1)), (V.int .i64 0), (V.int .i64 0), (V.inl t_byte []), (V.inl t_byte []), (V.int .i64 0)]
def ND.lead' (s : ND) : ND := { s.fresh with role := 2, lead := s.id, wait := 0, log := bif decide (((s.log.length : Nat) : Int) < 400) then s.log ++ [noopI s.term] else s.log }
structure CandOk (s : ND) : Prop where
  W : W_Node s.v
  id0 : 0 ≤ s.id
  idn : s.id < (s.mtch.length : Int)
  next : s.next.length = s.mtch.length
  votes : s.votes.length = s.mtch.length
  few : s.mtch.length ≤ 5
  log : s.log.length ≤ 400
  com0 : 0 ≤ s.commit
  com1 : s.commit ≤ (s.log.length : Int)
  size : zS z_Item s.log ≤ 2000000
  nrm : Nrm s.log
theorem LW_rep' {w : V → Prop} {x : V} {k : Nat} (h : w x) (hk : k ≤ 1000) : LW w (List.replicate k x) := LW_rep h (by omega)
set_option maxRecDepth 100000 in
theorem CandOk.leadLog {s : ND} (h : CandOk s) : s.lead'.log.length ≤ s.log.length + 1 ∧ s.log.length ≤ s.lead'.log.length ∧ s.lead'.log.length ≤ 400 ∧ zS z_Item s.lead'.log ≤ 3000000 ∧ Nrm s.lead'.log ∧ LW W_Item s.lead'.log := by
  have hz := h.size; have hW := h.W; have hl := h.log
  show (bif decide (((s.log.length : Nat) : Int) < 400) then s.log ++ [noopI s.term] else s.log).length ≤ _ ∧ _ ≤ (bif decide (((s.log.length : Nat) : Int) < 400) then s.log ++ [noopI s.term] else s.log).length ∧ (bif decide (((s.log.length : Nat) : Int) < 400) then s.log ++ [noopI s.term] else s.log).length ≤ 400 ∧
    zS z_Item (bif decide (((s.log.length : Nat) : Int) < 400) then s.log ++ [noopI s.term] else s.log) ≤ _ ∧ Nrm (bif decide (((s.log.length : Nat) : Int) < 400) then s.log ++ [noopI s.term] else s.log) ∧ LW W_Item (bif decide (((s.log.length : Nat) : Int) < 400) then s.log ++ [noopI s.term] else s.log)
  by_cases hc : ((s.log.length : Nat) : Int) < 400
  · simp only [hc, decide_true, cond_true]
    have hll : (s.log ++ [noopI s.term]).length = s.log.length + 1 := by rw [List.length_append, List.length_singleton]
    have hsz : zS z_Item [noopI s.term] = 1 := rfl
    refine ⟨by omega, by omega, by omega, by rw [zS_append, hsz]; omega, nrm_append h.nrm rfl, by rw [hll]; omega, fun x hx => ?_⟩
    rcases List.mem_append.1 hx with hx | hx
    · exact hW.2.2.2.1.2 x hx
    · obtain rfl := List.mem_singleton.1 hx
      exact ⟨hW.2.1, I64_m1, I64_0, I64_0, LW.nil, LW.nil, I64_0⟩
  · simp only [hc, decide_false, cond_false]
    exact ⟨by omega, by omega, by omega, by omega, h.nrm, hW.2.2.2.1⟩
set_option maxRecDepth 100000 in
theorem CandOk.leads {s : ND} (h : CandOk s) : LeadOk s.lead' := by
  obtain ⟨l1, l2, l3, l4, l5, l6⟩ := h.leadLog
  have hW := h.W; have hf := h.few; have hn := h.next; have hv := h.votes; have c0 := h.com0; have c1 := h.com1; have hl := h.log
  have hnl : s.lead'.next.length = s.next.length := List.length_replicate
  have hml : s.lead'.mtch.length = s.mtch.length := List.length_replicate
  refine ⟨⟨hW.1, hW.2.1, hW.2.2.1, l6, hW.2.2.2.2.1, (show I64 2 from ⟨by decide, by decide⟩), hW.1, I64_0, hW.2.2.2.2.2.2.2.2.1, ?_, ?_⟩, h.id0, by rw [hml]; exact h.idn, by rw [hnl, hml]; exact hn, by rw [hml]; exact hv, by rw [hml]; exact hf, by omega, c0, by show s.commit ≤ _; omega, by omega, fun i hi hne => ?_⟩
  · exact LW_rep' (w := W_int) (x := nextX s) ⟨by show (-9223372036854775808 : Int) ≤ ((s.log.length : Nat) : Int) + 1; omega, by show ((s.log.length : Nat) : Int) + 1 ≤ 9223372036854775807; omega⟩ (by omega)
  · exact LW_rep' (w := W_int) (x := V.int .i64 0) I64_0 (by omega)
  · have hi : i < s.votes.length := hi
    have hi2 : i < s.next.length := by rw [hn, ← hv]; exact hi
    have e : rd (List.replicate s.next.length (nextX s)) i = nextX s := by simp [rd, List.getD, hi2]
    refine ⟨by show i < (List.replicate s.next.length (nextX s)).length; rw [List.length_replicate]; exact hi2, ?_, ?_, by show s.lead'.log.length ≤ 401; omega⟩
    · show 1 ≤ gi (rd (List.replicate s.next.length (nextX s)) i) 0
      rw [e]; show (1 : Int) ≤ ((s.log.length : Nat) : Int) + 1; omega
    · show gi (rd (List.replicate s.next.length (nextX s)) i) 0 ≤ ((s.lead'.log.length : Nat) : Int) + 1
      rw [e]; show ((s.log.length : Nat) : Int) + 1 ≤ _; omega
theorem LeadOk.spec' {s : ND} (h : LeadOk s) : (Option.bind (spec_l4commit s.v) fun r => spec_l4all_v1 (n_impl_Node r)) = some (msgsN s.adv.v s.votes.length, s.adv.v) := by
  have hf := h.few; have hl := h.log
  rw [spec_l4commit_eq h.id0 h.idn h.next h.votes (by omega) (by omega) h.com0 h.com1, Option.bind_some]
  exact spec_l4all_v1_eq (s := s.adv) h.adv.1 (show s.votes.length ≤ 1000 by have := h.votes; omega) h.adv.2
def mostB (s : ND) : Bool := decide (((s.votes.length : Nat) : Int) < 2 * ((cntT s.votes : Nat) : Int))
set_option maxRecDepth 100000 in
theorem impl_lead_eq {s : ND} (h : CandOk s) {out : List V} (ho : out.length ≤ 1000) : impl_server_lead (s.sv out) = some (bif mostB s then s.lead'.adv.sv (out ++ msgsN s.lead'.adv.v s.votes.length) else s.sv out) := by
  have hf := h.few; have hn := h.next; have hv := h.votes; have hl := h.log
  have hcl := cntT_le s.votes
  have e1 := impl_votes_run (s := s) (out := out) (by omega)
  have e2 := impl_fresh_run (s := ({ s with role := 2, lead := s.id, wait := 0 } : ND)) (out := out) (show s.next.length ≤ 1000 by omega) (show s.log.length ≤ 1000 by omega) (show s.mtch.length = s.next.length by omega)
  have e3 := h.leads.impl ho
  obtain ⟨r1, p0, p1⟩ := Option.bind_eq_some_iff.1 e3
  unfold impl_server_lead
  rw [show gl (s.sv out) 8 = s.votes from rfl, fuel_eq]
  refine Eq.trans (congrArg (fun o => Option.bind o _) e1) ?_
  simp only [Option.bind_some, impl_Node_most]
  rw [wr64' (n := 2 * ((cntT s.votes : Nat) : Int)) (by omega) (by omega)]
  by_cases hm : ((s.votes.length : Nat) : Int) < 2 * ((cntT s.votes : Nat) : Int)
  case neg =>
    rw [show mostB s = false from decide_eq_false hm]
    simp only [gl_c0, gl_cs, hm, decide_false, Bool.not_false, cond_true, cond_false]
    rfl
  case pos =>
    rw [show mostB s = true from decide_eq_true hm]
    simp only [gl_c0, gl_cs, hm, decide_true, Bool.not_true, cond_false, cond_true, fuel_eq]
    refine Eq.trans (congrArg (fun o => Option.bind o _) e2) ?_
    simp only [Option.bind_some]
    by_cases hc : ((s.log.length : Nat) : Int) < 400
    · have hlog : s.lead'.log = s.log ++ [noopI s.term] := by show (bif decide (((s.log.length : Nat) : Int) < 400) then _ else _) = _; rw [decide_eq_true hc]; rfl
      simp only [hc, decide_true, cond_true]
      rw [roomyB (n := s.log.length + 1) (by omega) (by omega)]
      simp only [cond_true]
      refine Eq.trans (congrArg (fun o => Option.bind o _) (show _ = some r1 from ?_)) ?_
      · rw [← p0]; unfold ND.sv; rw [hlog]; rfl
      · simp only [Option.bind_some, p1]; rfl
    · have hlog : s.lead'.log = s.log := by show (bif decide (((s.log.length : Nat) : Int) < 400) then _ else _) = _; rw [decide_eq_false hc]; rfl
      simp only [hc, decide_false, cond_false]
      refine Eq.trans (congrArg (fun o => Option.bind o _) (show _ = some r1 from ?_)) ?_
      · rw [← p0]; unfold ND.sv; rw [hlog]; rfl
      · simp only [Option.bind_some, p1]; rfl
set_option maxRecDepth 100000 in
theorem spec_lead_eq {s : ND} (h : CandOk s) : spec_l4lead s.v = some (bif mostB s then (msgsN s.lead'.adv.v s.votes.length, s.lead'.adv.v) else ([], s.v)) := by
  have hf := h.few; have hn := h.next; have hv := h.votes; have hl := h.log
  have hcl := cntT_le s.votes
  have e1 := spec_votes_run (s := s) (by omega)
  have e2 := spec_fresh_run (s := ({ s with role := 2, lead := s.id, wait := 0 } : ND)) (show s.next.length ≤ 1000 by omega) (show s.log.length ≤ 1000 by omega) (show s.mtch.length = s.next.length by omega)
  have e3 := h.leads.spec'
  obtain ⟨r1, p0, p1⟩ := Option.bind_eq_some_iff.1 e3
  unfold spec_l4lead
  rw [show gl s.v 8 = s.votes from rfl, fuel_eq]
  refine Eq.trans (congrArg (fun o => Option.bind o _) e1) ?_
  simp only [Option.bind_some, spec_l4most]
  rw [wr64' (n := 2 * ((cntT s.votes : Nat) : Int)) (by omega) (by omega)]
  by_cases hm : ((s.votes.length : Nat) : Int) < 2 * ((cntT s.votes : Nat) : Int)
  case neg =>
    rw [show mostB s = false from decide_eq_false hm]
    simp only [gl_c0, gl_cs, hm, decide_false, Bool.not_false, cond_true, cond_false]
    rfl
  case pos =>
    rw [show mostB s = true from decide_eq_true hm]
    simp only [gl_c0, gl_cs, hm, decide_true, Bool.not_true, cond_false, cond_true, fuel_eq]
    refine Eq.trans (congrArg (fun o => Option.bind o _) e2) ?_
    simp only [Option.bind_some]
    by_cases hc : ((s.log.length : Nat) : Int) < 400
    · have hlog : s.lead'.log = s.log ++ [noopI s.term] := by show (bif decide (((s.log.length : Nat) : Int) < 400) then _ else _) = _; rw [decide_eq_true hc]; rfl
      simp only [hc, decide_true, cond_true]
      rw [roomyB (n := 0 + s.log.length) (by omega) (by omega), roomyB (n := s.log.length + 1) (by omega) (by omega)]
      simp only [cond_true]
      refine Eq.trans (congrArg (fun o => Option.bind o _) (show _ = some r1 from ?_)) ?_
      · rw [← p0]; unfold ND.v; rw [hlog]; rfl
      · simp only [Option.bind_some, p1]; rfl
    · have hlog : s.lead'.log = s.log := by show (bif decide (((s.log.length : Nat) : Int) < 400) then _ else _) = _; rw [decide_eq_false hc]; rfl
      simp only [hc, decide_false, cond_false]
      refine Eq.trans (congrArg (fun o => Option.bind o _) (show _ = some r1 from ?_)) ?_
      · rw [← p0]; unfold ND.v; rw [hlog]; rfl
      · simp only [Option.bind_some, p1]; rfl
end Go.Eng.R
open Go Go.Eng
namespace Go.Eng.R
def ND.clr (s : ND) : ND := { s with role := 0, votes := List.replicate s.votes.length (V.bool false), next := List.replicate s.next.length (V.int .i64 0), mtch := List.replicate s.mtch.length (V.int .i64 0) }
def ND.fol (s : ND) (t : Int) : ND := bif decide (s.term < t) then ({ s with term := t, vote := -1, lead := -1 } : ND).clr else s.clr
theorem impl_follow_eq (s : ND) (out : List V) (t : Int) : impl_server_follow (s.sv out) t = (s.fol t).sv out := by
  unfold impl_server_follow ND.fol
  have e8 : (gl (s.sv out) 8).drop (0 + (gl (s.sv out) 8).length) = [] := by simp
  have e9 : (gl (s.sv out) 9).drop (0 + (gl (s.sv out) 9).length) = [] := by simp
  have e10 : (gl (s.sv out) 10).drop (0 + (gl (s.sv out) 10).length) = [] := by simp
  rw [e8, e9, e10, show gi (s.sv out) 1 = s.term from rfl]
  simp only [List.append_nil]
  cases decide (s.term < t) <;> rfl
theorem spec_clr_run {s : ND} (hl : s.votes.length ≤ 1000) (h9 : s.next.length = s.votes.length) (h10 : s.mtch.length = s.votes.length) : spec_l4follow_l6 (s.votes.length + 1) 0 (s.c 1 2 3 4) s.log s.votes s.next s.mtch = some (s.c 1 2 3 4, s.log, s.clr.votes, s.clr.next, s.clr.mtch) := by
  have e9 : fillTo s.next (V.int .i64 0) s.votes.length = List.replicate s.next.length (V.int .i64 0) := by rw [← h9]; exact fillTo_all _ _
  have e10 : fillTo s.mtch (V.int .i64 0) s.votes.length = List.replicate s.mtch.length (V.int .i64 0) := by rw [← h10]; exact fillTo_all _ _
  refine loop_run0 (F := fun m (r : List V × List V × List V) i => spec_l4follow_l6 m i (s.c 1 2 3 4) s.log r.1 r.2.1 r.2.2) (n := s.votes.length) (fun i r => r = (fillTo s.votes (V.bool false) i, fillTo s.next (V.int .i64 0) i, fillTo s.mtch (V.int .i64 0) i)) (fun o => o = some (s.c 1 2 3 4, s.log, s.clr.votes, s.clr.next, s.clr.mtch)) ?_ ?_ (s := (s.votes, s.next, s.mtch)) rfl
  · intro m i r hi hI
    subst hI
    refine .inl ⟨_, ?_, rfl⟩
    show spec_l4follow_l6 (m + 1) (i : Int) _ _ _ _ _ = _
    rw [spec_l4follow_l6, ← fillTo_set hi, ← fillTo_set (l := s.next) (by omega), ← fillTo_set (l := s.mtch) (by omega)]
    have hlen : (fillTo s.votes (V.bool false) i).length = s.votes.length := fillTo_len (by omega)
    rw [hlen, show idxOk ((i : Nat) : Int) s.votes.length = true from idxOk_nat hi, show idxOk ((i : Nat) : Int) (fillTo s.next (V.int .i64 0) i).length = true from idxOk_nat (by rw [fillTo_len (by omega)]; omega), show idxOk ((i : Nat) : Int) (fillTo s.mtch (V.int .i64 0) i).length = true from idxOk_nat (by rw [fillTo_len (by omega)]; omega)]
    simp only [lt_nat hi, Int.toNat_natCast, Nat.zero_add, cond_true, wr_succ hi (show s.votes.length ≤ 9223372036854775807 by omega)]
    rfl
  · intro m r hI
    subst hI
    show spec_l4follow_l6 (m + 1) _ _ _ _ _ _ = _
    have hlen : (fillTo s.votes (V.bool false) s.votes.length).length = s.votes.length := fillTo_len (by omega)
    rw [spec_l4follow_l6, hlen, lt_self, fillTo_all, e9, e10]; rfl
theorem spec_follow_eq {s : ND} (t : Int) (hl : s.votes.length ≤ 1000) (h9 : s.next.length = s.votes.length) (h10 : s.mtch.length = s.votes.length) : spec_l4follow s.v t = some (s.fol t).v := by
  unfold spec_l4follow ND.fol
  have e1 := spec_clr_run (s := ({ s with term := t, vote := -1, lead := -1, role := 0 } : ND)) hl h9 h10
  have e2 := spec_clr_run (s := ({ s with role := 0 } : ND)) hl h9 h10
  rw [show gi s.v 1 = s.term from rfl, show gl s.v 8 = s.votes from rfl, fuel_eq]
  cases decide (s.term < t) with
  | true => exact Eq.trans (congrArg (fun o => Option.bind o _) e1) rfl
  | false => exact Eq.trans (congrArg (fun o => Option.bind o _) e2) rfl
set_option maxRecDepth 100000 in
theorem StepOk'.cand {s : ND} (h : CandOk s) : StepOk' (bif mostB s then s.lead'.adv else s) (bif mostB s then msgsN s.lead'.adv.v s.votes.length else []) := by
  have hf := h.few; have hn := h.next; have hv := h.votes; have hz := h.size; have hl := h.log
  cases mostB s with
  | true =>
    obtain ⟨l1, l2, l3, l4, l5, l6⟩ := h.leadLog
    exact StepOk'.led h.leads l5 l4
  | false =>
    show StepOk' s []
    exact StepOk'.none h.W h.nrm (by omega) (by omega) (by omega) (by omega)
end Go.Eng.R
open Go Go.Eng
namespace Go.Eng.R
def ptm (m : V) (i : Nat) : Int := if i = 0 then gi m 5 else gi (rd (gl m 6) (i - 1)) 0
theorem ptm_succ (m : V) (i : Nat) : ptm m (i + 1) = gi (rd (gl m 6) i) 0 := by simp [ptm]
def stepM (m : V) (i : Nat) : Bool := itemB (rd (gl m 6) i) && (decide (ptm m i ≤ gi (rd (gl m 6) i) 0) && decide (gi (rd (gl m 6) i) 0 ≤ gi m 3))
def stepM' (m : V) (i : Nat) : Bool := itemB (rd (gl m 6) i) && (decide (gi (rd (gl m 6) i) 0 ≤ gi m 3) && ((decide (i = 0) || decide (gi (rd (gl m 6) (i - 1)) 0 ≤ gi (rd (gl m 6) i) 0)) && decide (gi m 5 ≤ gi (rd (gl m 6) i) 0)))
theorem stepM_all (m : V) (n : Nat) : (List.range n).all (stepM' m) = (List.range n).all (stepM m) := by
  induction n with
  | zero => rfl
  | succ n ih =>
    rw [range_all_succ, range_all_succ, ih]
    cases hn : (List.range n).all (stepM m) with
    | false => rfl
    | true =>
      simp only [Bool.true_and]
      rw [List.all_eq_true] at hn
      have key : ∀ i, i < n → gi m 5 ≤ gi (rd (gl m 6) i) 0 := by
        intro i
        induction i with
        | zero => intro h; have := hn 0 (List.mem_range.2 h); simp only [stepM, ptm, Bool.and_eq_true, decide_eq_true_eq] at this; simpa using this.2.1
        | succ i ih =>
          intro h
          have h1 := ih (by omega)
          have := hn (i + 1) (List.mem_range.2 h)
          simp only [stepM, ptm_succ, Bool.and_eq_true, decide_eq_true_eq] at this
          have h2 := this.2.1
          omega
      unfold stepM stepM' ptm
      cases itemB (rd (gl m 6) n) with
      | false => rfl
      | true =>
        simp only [Bool.true_and]
        cases n with
        | zero => simp [Bool.and_comm]
        | succ j =>
          have := key j (by omega)
          simp only [Nat.add_sub_cancel, show ¬ (j + 1 = 0) from by omega, if_false, decide_false, Bool.false_or]
          by_cases h1 : gi (rd (gl m 6) j) 0 ≤ gi (rd (gl m 6) (j + 1)) 0
          · rw [decide_eq_true h1, decide_eq_true (show gi m 5 ≤ gi (rd (gl m 6) (j + 1)) 0 by omega)]; simp
          · rw [decide_eq_false h1]; simp
def itemsOkB (m : V) : Bool := (List.range (gl m 6).length).all (stepM m)
theorem spec_msgItems_run {m : V} (hm : W_Msg m) : spec_MsgOk_l6 ((gl m 6).length + 1) 0 (n_impl_Msg m) =
    bif itemsOkB m then some (1, false, n_impl_Msg m) else some (0, false, n_impl_Msg m) := by
  have hl := hm.2.2.2.2.2.2.1.1
  unfold itemsOkB
  rw [← stepM_all]
  refine all_range (F := fun k i => spec_MsgOk_l6 k i (n_impl_Msg m)) (fun k i hi => ?_) (fun k => ?_)
  · have e : spec_ItemOk (n_laws_Item (rd (gl m 6) i)) = some (itemB (rd (gl m 6) i)) := spec_ItemOk_eq (x := n_laws_Item (rd (gl m 6) i)) (hm.2.2.2.2.2.2.1.rd hi)
    show spec_MsgOk_l6 (k + 1) i (n_impl_Msg m) = _
    rw [spec_MsgOk_l6]
    simp only [show gl (n_impl_Msg m) 6 = gl m 6 from rfl, show gi (n_impl_Msg m) 3 = gi m 3 from rfl, show gi (n_impl_Msg m) 5 = gi m 5 from rfl, lt_nat hi, idxOk_nat hi, Int.toNat_natCast, cond_true, e, Option.bind_some, wr_succ hi hl, stepM']
    cases itemB (rd (gl m 6) i) with
    | false => rfl
    | true =>
      simp only [Bool.not_true, cond_false, Bool.true_and]
      by_cases h1 : gi (rd (gl m 6) i) 0 ≤ gi m 3
      · rw [show decide (gi m 3 < gi (rd (gl m 6) i) 0) = false from by simp; omega, cond_false, decide_eq_true h1, Bool.true_and]
        have hlast : (bif decide (gi (rd (gl m 6) i) 0 < gi m 5) then some (0, false, n_impl_Msg m) else spec_MsgOk_l6 k ((i + 1 : Nat) : Int) (n_impl_Msg (m))) = bif decide (gi m 5 ≤ gi (rd (gl m 6) i) 0) then spec_MsgOk_l6 k ((i + 1 : Nat) : Int) (n_impl_Msg (m)) else some (0, false, n_impl_Msg m) := by
          by_cases h3 : gi m 5 ≤ gi (rd (gl m 6) i) 0
          · rw [show decide (gi (rd (gl m 6) i) 0 < gi m 5) = false from by simp; omega, decide_eq_true h3]; rfl
          · rw [show decide (gi (rd (gl m 6) i) 0 < gi m 5) = true from by simp; omega, decide_eq_false h3]; rfl
        cases i with
        | zero =>
          rw [show decide ((0 : Int) < ((0 : Nat) : Int)) = false from by simp, cond_false]
          exact hlast
        | succ j =>
          have hj : j < (gl m 6).length := by omega
          have ew : IntKind.i64.wrap (((j + 1 : Nat) : Int) - 1) = ((j : Nat) : Int) := by rw [wr64' (by omega) (by omega)]; omega
          rw [show decide ((0 : Int) < ((j + 1 : Nat) : Int)) = true from decide_eq_true (by omega), cond_true, ew, idxOk_nat hj, cond_true, Int.toNat_natCast, show decide (j + 1 = 0) = false from by simp, Bool.false_or, Nat.add_sub_cancel]
          by_cases h2 : gi (rd (gl m 6) j) 0 ≤ gi (rd (gl m 6) (j + 1)) 0
          · rw [show decide (gi (rd (gl m 6) (j + 1)) 0 < gi (rd (gl m 6) j) 0) = false from by simp; omega, decide_eq_true h2, cond_false, Bool.true_and]
            exact hlast
          · rw [show decide (gi (rd (gl m 6) (j + 1)) 0 < gi (rd (gl m 6) j) 0) = true from by simp; omega, decide_eq_false h2]; rfl
      · rw [show decide (gi m 3 < gi (rd (gl m 6) i) 0) = true from by simp; omega, decide_eq_false h1]; rfl
  · show spec_MsgOk_l6 (k + 1) _ (n_impl_Msg m) = _
    rw [spec_MsgOk_l6]
    simp only [show gl (n_impl_Msg m) 6 = gl m 6 from rfl, lt_self, cond_false]
    rfl
theorem impl_msgItems_run {m : V} (hm : W_Msg m) : impl_MsgOk_l11 ((gl m 6).length + 1) (gi m 5) (gl m 6) (((gl m 6).length : Nat) : Int) 0 (n_impl_Msg m) =
    bif itemsOkB m then some (1, false, n_impl_Msg m) else some (0, false, n_impl_Msg m) := by
  have hl := hm.2.2.2.2.2.2.1.1
  refine all_run (F := fun k t i => impl_MsgOk_l11 k t (gl m 6) (((gl m 6).length : Nat) : Int) i (n_impl_Msg m)) (fun i t => t = ptm m i) (fun k i t hi ht => ?_) (fun k t ht => ?_) rfl
  · subst ht
    have e : impl_ItemOk (n_laws_Item (rd (gl m 6) i)) = some (itemB (rd (gl m 6) i)) := impl_ItemOk_eq (x := n_laws_Item (rd (gl m 6) i)) (hm.2.2.2.2.2.2.1.rd hi)
    have e0 : impl_MsgOk_l11 (k + 1) (ptm m i) (gl m 6) (((gl m 6).length : Nat) : Int) i (n_impl_Msg m) = bif (!(itemB (rd (gl m 6) i))) then some (0, false, n_impl_Msg m) else bif (!(decide (ptm m i ≤ gi (rd (gl m 6) i) 0 ∧ gi (rd (gl m 6) i) 0 ≤ gi m 3))) then some (0, false, n_impl_Msg m)
        else impl_MsgOk_l11 k (gi (rd (gl m 6) i) 0) (gl m 6) (((gl m 6).length : Nat) : Int) ((i + 1 : Nat) : Int) (n_impl_Msg m) := by
      rw [impl_MsgOk_l11]
      simp only [lt_nat hi, idxOk_nat hi, Int.toNat_natCast, cond_true, e, Option.bind_some, wr_succ hi hl, within_eq]
      rfl
    unfold stepM
    cases hit : itemB (rd (gl m 6) i) with
    | false => exact .inr ⟨rfl, by show impl_MsgOk_l11 (k + 1) _ _ _ _ _ = _; rw [e0, hit]; rfl⟩
    | true =>
      rw [hit] at e0
      by_cases h1 : ptm m i ≤ gi (rd (gl m 6) i) 0 ∧ gi (rd (gl m 6) i) 0 ≤ gi m 3
      · refine .inl ⟨by rw [decide_eq_true h1.1, decide_eq_true h1.2]; rfl, gi (rd (gl m 6) i) 0, ?_, ?_⟩
        · show impl_MsgOk_l11 (k + 1) _ _ _ _ _ = _; rw [e0, decide_eq_true h1]; rfl
        · simp [ptm]
      · refine .inr ⟨?_, by show impl_MsgOk_l11 (k + 1) _ _ _ _ _ = _; rw [e0, decide_eq_false h1]; rfl⟩
        by_cases h2 : ptm m i ≤ gi (rd (gl m 6) i) 0
        · rw [decide_eq_true h2, decide_eq_false (fun h => h1 ⟨h2, h⟩)]; rfl
        · rw [decide_eq_false h2]; rfl
  · show impl_MsgOk_l11 (k + 1) _ _ _ _ (n_impl_Msg m) = _
    rw [impl_MsgOk_l11, lt_self]; rfl
structure MsgP (m : V) : Prop where
  kind0 : 0 ≤ gi m 0
  kind3 : gi m 0 ≤ 3
  from0 : 0 ≤ gi m 1
  from4 : gi m 1 < 5
  to0 : 0 ≤ gi m 2
  to4 : gi m 2 < 5
  ne : gi m 1 ≠ gi m 2
  term1 : 1 ≤ gi m 3
  termM : gi m 3 ≤ 100000
  prev0 : 0 ≤ gi m 4
  prevM : gi m 4 ≤ 400
  pt0 : 0 ≤ gi m 5
  ptT : gi m 5 ≤ gi m 3
  com0 : 0 ≤ gi m 7
  comM : gi m 7 ≤ 400
  len4 : ((gl m 6).length : Int) ≤ 4
  lenP : ((gl m 6).length : Int) ≤ 400 - gi m 4
  zero : gi m 0 = 0 ∨ gi m 0 = 2 → (gi m 4 = 0 ↔ gi m 5 = 0)
  items : itemsOkB m = true
  ask : gi m 0 = 0 → (gl m 6).length = 0 ∧ gi m 7 = 0 ∧ gb m 8 = false
  vote : gi m 0 = 1 → gi m 4 = 0 ∧ gi m 5 = 0 ∧ (gl m 6).length = 0 ∧ gi m 7 = 0
  add : gi m 0 = 2 → gb m 8 = false
  ack : gi m 0 = 3 → gi m 5 = 0 ∧ (gl m 6).length = 0 ∧ gi m 7 = 0
noncomputable def msgB (m : V) : Bool := @decide (MsgP m) (Classical.propDecidable _)
theorem msgB_false {m : V} (h : MsgP m → False) : msgB m = false := @decide_eq_false _ (Classical.propDecidable _) h
theorem msgB_true {m : V} (h : MsgP m) : msgB m = true := @decide_eq_true _ (Classical.propDecidable _) h
theorem msgB_p {m : V} (h : msgB m = true) : MsgP m := @of_decide_eq_true _ (Classical.propDecidable _) h
theorem chkT {c b : Bool} {rest : Option Bool} (h1 : c = false → b = false) (h2 : c = true → rest = some b) : (bif c then rest else some false) = some b := by
  cases c with
  | false => rw [h1 rfl]; rfl
  | true => exact h2 rfl
end Go.Eng.R
open Go Go.Eng
namespace Go.Eng.R
theorem server5_eq (n : Int) : spec_l3server n = decide (0 ≤ n ∧ n < 5) := by
  unfold spec_l3server; by_cases h : 0 ≤ n <;> simp [h]
theorem place_eq (n : Int) : spec_l3place n = decide (0 ≤ n ∧ n ≤ 400) := by
  unfold spec_l3place; by_cases h : 0 ≤ n <;> simp [h]
theorem spec_MsgOk_eq {m : V} (hm : W_Msg m) : spec_MsgOk (n_impl_Msg m) = some (msgB m) := by
  have hlen := hm.2.2.2.2.2.2.1.1
  unfold spec_MsgOk
  simp only [server5_eq, term_eq, place_eq, fuel_eq, show n_impl_Msg (n_impl_Msg m) = n_impl_Msg m from rfl, show gi (n_impl_Msg m) 0 = gi m 0 from rfl, show gi (n_impl_Msg m) 1 = gi m 1 from rfl, show gi (n_impl_Msg m) 2 = gi m 2 from rfl, show gi (n_impl_Msg m) 3 = gi m 3 from rfl, show gi (n_impl_Msg m) 4 = gi m 4 from rfl, show gi (n_impl_Msg m) 5 = gi m 5 from rfl, show gl (n_impl_Msg m) 6 = gl m 6 from rfl, show gi (n_impl_Msg m) 7 = gi m 7 from rfl, spec_msgItems_run hm]
  refine chk (fun h => msgB_false fun p => absurd (yes_of h) (Int.not_lt.2 p.kind0)) fun h => ?_
  have kind0 := no_of h
  refine chk (fun h => msgB_false fun p => absurd (yes_of h) (Int.not_lt.2 p.kind3)) fun h => ?_
  have kind3 := no_of h
  refine chk (fun h => msgB_false fun p => not_of h ⟨p.from0, p.from4⟩) fun h => ?_
  have hfrom := of_not h
  refine chk (fun h => msgB_false fun p => not_of h ⟨p.to0, p.to4⟩) fun h => ?_
  have hto := of_not h
  refine chk (fun h => msgB_false fun p => p.ne (yes_of h)) fun h => ?_
  have hne := no_of h
  refine chk (fun h => msgB_false fun p => absurd (yes_of h) (Int.not_lt.2 p.term1)) fun h => ?_
  have term1 := no_of h
  refine chk (fun h => msgB_false fun p => not_of h ⟨by have := p.term1; omega, p.termM⟩) fun h => ?_
  have hterm := of_not h
  refine chk (fun h => msgB_false fun p => not_of h ⟨p.prev0, p.prevM⟩) fun h => ?_
  have hprev := of_not h
  refine chk (fun h => msgB_false fun p => not_of h ⟨p.pt0, by have := p.ptT; have := p.termM; omega⟩) fun h => ?_
  have hpt := of_not h
  refine chk (fun h => msgB_false fun p => absurd (yes_of h) (Int.not_lt.2 p.ptT)) fun h => ?_
  have ptT := no_of h
  refine chk (fun h => msgB_false fun p => not_of h ⟨p.com0, p.comM⟩) fun h => ?_
  have hcom := of_not h
  refine chk (fun h => msgB_false fun p => absurd (yes_of h) (Int.not_lt.2 p.len4)) fun h => ?_
  have len4 := no_of h
  rw [wr64' (n := 400 - gi m 4) (by omega) (by omega)]
  refine chk (fun h => msgB_false fun p => absurd (yes_of h) (Int.not_lt.2 p.lenP)) fun h => ?_
  have lenP := no_of h
  clear h
  have fin : ∀ (hz : gi m 0 = 0 ∨ gi m 0 = 2 → (gi m 4 = 0 ↔ gi m 5 = 0)), (Option.bind (bif itemsOkB m then some (1, false, n_impl_Msg m) else some (0, false, n_impl_Msg m)) fun r37 : Nat × Bool × V =>
      bif (Nat.beq r37.1 0) then
        some r37.2.1
      else bif (decide ((gi r37.2.2 0) = 0)) then
        bif (decide ((((gl r37.2.2 6).length : Nat) : Int) = 0)) then
          bif (decide ((gi r37.2.2 7) = 0)) then
            some (!(gb r37.2.2 8))
          else some false
        else some false
      else bif (decide ((gi r37.2.2 0) = 1)) then
        bif (decide ((gi r37.2.2 4) = 0)) then
          bif (decide ((gi r37.2.2 5) = 0)) then
            bif (decide ((((gl r37.2.2 6).length : Nat) : Int) = 0)) then
              some (decide ((gi r37.2.2 7) = 0))
            else some false
          else some false
        else some false
      else bif (decide ((gi r37.2.2 0) = 2)) then
        some (!(gb r37.2.2 8))
      else bif (decide ((gi r37.2.2 5) = 0)) then
        bif (decide ((((gl r37.2.2 6).length : Nat) : Int) = 0)) then
          some (decide ((gi r37.2.2 7) = 0))
        else some false
      else some false) = some (msgB m) := by
    intro hz
    cases hit : itemsOkB m with
    | false => rw [msgB_false fun p => by rw [p.items] at hit; cases hit]; rfl
    | true =>
      show (bif (decide ((gi m 0) = 0)) then
        bif (decide ((((gl m 6).length : Nat) : Int) = 0)) then bif (decide ((gi m 7) = 0)) then some (!(gb m 8)) else some false else some false
      else bif (decide ((gi m 0) = 1)) then
        bif (decide ((gi m 4) = 0)) then bif (decide ((gi m 5) = 0)) then bif (decide ((((gl m 6).length : Nat) : Int) = 0)) then some (decide ((gi m 7) = 0)) else some false else some false else some false
      else bif (decide ((gi m 0) = 2)) then some (!(gb m 8))
      else bif (decide ((gi m 5) = 0)) then bif (decide ((((gl m 6).length : Nat) : Int) = 0)) then some (decide ((gi m 7) = 0)) else some false else some false) = _
      have mk : ∀ (a : gi m 0 = 0 → (gl m 6).length = 0 ∧ gi m 7 = 0 ∧ gb m 8 = false) (v : gi m 0 = 1 → gi m 4 = 0 ∧ gi m 5 = 0 ∧ (gl m 6).length = 0 ∧ gi m 7 = 0) (b : gi m 0 = 2 → gb m 8 = false) (c : gi m 0 = 3 → gi m 5 = 0 ∧ (gl m 6).length = 0 ∧ gi m 7 = 0), msgB m = true := fun a v b c => msgB_true ⟨by omega, by omega, hfrom.1, hfrom.2, hto.1, hto.2, hne, by omega, hterm.2, hprev.1, hprev.2, hpt.1, by omega, hcom.1, hcom.2, by omega, by omega, hz, hit, a, v, b, c⟩
      by_cases k0 : gi m 0 = 0
      · rw [decide_eq_true k0, cond_true]
        refine chkT (fun h => msgB_false fun p => no_of h (by have := (p.ask k0).1; omega)) fun h1 => ?_
        refine chkT (fun h => msgB_false fun p => no_of h (p.ask k0).2.1) fun h2 => ?_
        cases h3 : gb m 8 with
        | true => rw [msgB_false fun p => by rw [(p.ask k0).2.2] at h3; cases h3]; rfl
        | false => rw [mk (fun _ => ⟨by have := yes_of h1; omega, yes_of h2, h3⟩) (fun h => by omega) (fun h => by omega) (fun h => by omega)]; rfl
      rw [decide_eq_false k0, cond_false]
      by_cases k1 : gi m 0 = 1
      · rw [decide_eq_true k1, cond_true]
        refine chkT (fun h => msgB_false fun p => no_of h (p.vote k1).1) fun h1 => ?_
        refine chkT (fun h => msgB_false fun p => no_of h (p.vote k1).2.1) fun h2 => ?_
        refine chkT (fun h => msgB_false fun p => no_of h (by have := (p.vote k1).2.2.1; omega)) fun h3 => ?_
        by_cases h4 : gi m 7 = 0
        · rw [mk (fun h => by omega) (fun _ => ⟨yes_of h1, yes_of h2, by have := yes_of h3; omega, h4⟩) (fun h => by omega) (fun h => by omega), decide_eq_true h4]
        · rw [msgB_false fun p => h4 (p.vote k1).2.2.2, decide_eq_false h4]
      rw [decide_eq_false k1, cond_false]
      by_cases k2 : gi m 0 = 2
      · rw [decide_eq_true k2, cond_true]
        cases h3 : gb m 8 with
        | true => rw [msgB_false fun p => by rw [p.add k2] at h3; cases h3]; rfl
        | false => rw [mk (fun h => by omega) (fun h => by omega) (fun _ => h3) (fun h => by omega)]; rfl
      rw [decide_eq_false k2, cond_false]
      have k3 : gi m 0 = 3 := by omega
      refine chkT (fun h => msgB_false fun p => no_of h (p.ack k3).1) fun h2 => ?_
      refine chkT (fun h => msgB_false fun p => no_of h (by have := (p.ack k3).2.1; omega)) fun h3 => ?_
      by_cases h4 : gi m 7 = 0
      · rw [mk (fun h => by omega) (fun h => by omega) (fun h => by omega) (fun _ => ⟨yes_of h2, by have := yes_of h3; omega, h4⟩), decide_eq_true h4]
      · rw [msgB_false fun p => h4 (p.ack k3).2.2, decide_eq_false h4]
  by_cases hz : (gi m 4 = 0 ↔ gi m 5 = 0)
  · rw [show (decide (gi m 4 = 0) == decide (gi m 5 = 0)) = true from by rw [beq_iff_eq]; exact decide_eq_decide.2 hz, Bool.not_true, cond_false]
    exact fin fun _ => hz
  · rw [show (decide (gi m 4 = 0) == decide (gi m 5 = 0)) = false from by rw [beq_eq_false_iff_ne]; exact fun h => hz (decide_eq_decide.1 h), Bool.not_false, cond_true]
    by_cases k3 : gi m 0 = 3
    · rw [decide_eq_true k3, Bool.not_true, cond_false]
      exact fin fun h => by omega
    rw [decide_eq_false k3, Bool.not_false, cond_true]
    by_cases k1 : gi m 0 = 1
    · rw [decide_eq_true k1, Bool.not_true, cond_false]
      exact fin fun h => by omega
    rw [decide_eq_false k1, Bool.not_false, cond_true, msgB_false fun p => hz (p.zero (by omega))]
end Go.Eng.R
open Go Go.Eng
namespace Go.Eng.R
theorem isTerm_eq (n : Int) : impl_isTerm n = decide (1 ≤ n ∧ n ≤ 100000) := by unfold impl_isTerm; exact within_eq _ _ _
theorem impl_MsgOk_eq {m : V} (hm : W_Msg m) : impl_MsgOk (n_impl_Msg m) = some (msgB m) := by
  have hlen := hm.2.2.2.2.2.2.1.1
  unfold impl_MsgOk
  simp only [isTerm_eq, within_eq, fuel_eq, show n_impl_Msg (n_impl_Msg m) = n_impl_Msg m from rfl, show gi (n_impl_Msg m) 0 = gi m 0 from rfl, show gi (n_impl_Msg m) 1 = gi m 1 from rfl, show gi (n_impl_Msg m) 2 = gi m 2 from rfl, show gi (n_impl_Msg m) 3 = gi m 3 from rfl, show gi (n_impl_Msg m) 4 = gi m 4 from rfl, show gi (n_impl_Msg m) 5 = gi m 5 from rfl, show gl (n_impl_Msg m) 6 = gl m 6 from rfl, show gi (n_impl_Msg m) 7 = gi m 7 from rfl, show gb (n_impl_Msg m) 8 = gb m 8 from rfl, impl_msgItems_run hm]
  refine chk (fun h => msgB_false fun p => not_of h ⟨p.kind0, p.kind3⟩) fun h => ?_
  have hkind := of_not h
  refine chk (fun h => msgB_false fun p => not_of h ⟨p.from0, by have := p.from4; omega⟩) fun h => ?_
  have hfrom := of_not h
  refine chk (fun h => msgB_false fun p => not_of h ⟨p.to0, by have := p.to4; omega⟩) fun h => ?_
  have hto := of_not h
  refine chk (fun h => msgB_false fun p => p.ne (yes_of h)) fun h => ?_
  have hne := no_of h
  refine chk (fun h => msgB_false fun p => not_of h ⟨p.term1, p.termM⟩) fun h => ?_
  have hterm := of_not h
  clear h
  have fin : ∀ (hprev : 0 ≤ gi m 4 ∧ gi m 4 ≤ 400) (hpt : 0 ≤ gi m 5 ∧ gi m 5 ≤ gi m 3) (hz : gi m 0 = 0 ∨ gi m 0 = 2 → (gi m 4 = 0 ↔ gi m 5 = 0)) (a : gi m 0 = 0 → (gl m 6).length = 0 ∧ gi m 7 = 0 ∧ gb m 8 = false) (v : gi m 0 = 1 → gi m 4 = 0 ∧ gi m 5 = 0 ∧ (gl m 6).length = 0 ∧ gi m 7 = 0) (b : gi m 0 = 2 → gb m 8 = false) (c : gi m 0 = 3 → gi m 5 = 0 ∧ (gl m 6).length = 0 ∧ gi m 7 = 0),
      (Option.bind (bif itemsOkB m then some (1, false, n_impl_Msg m) else some (0, false, n_impl_Msg m)) fun r : Nat × Bool × V =>
        bif (Nat.beq r.1 0) then some r.2.1
        else bif (decide ((((gl r.2.2 6).length : Nat) : Int) ≤ 4)) then
          bif (decide ((((gl r.2.2 6).length : Nat) : Int) ≤ (IntKind.i64.wrap (400 - (gi r.2.2 4))))) then
            some (decide (0 ≤ gi r.2.2 7 ∧ gi r.2.2 7 ≤ 400))
          else some false
        else some false) = some (msgB m) := by
    intro hprev hpt hz a v b c
    cases hit : itemsOkB m with
    | false => rw [msgB_false fun p => by rw [p.items] at hit; cases hit]; rfl
    | true =>
      show (bif (decide ((((gl m 6).length : Nat) : Int) ≤ 4)) then bif (decide ((((gl m 6).length : Nat) : Int) ≤ (IntKind.i64.wrap (400 - (gi m 4))))) then some (decide (0 ≤ gi m 7 ∧ gi m 7 ≤ 400)) else some false else some false) = _
      rw [wr64' (n := 400 - gi m 4) (by omega) (by omega)]
      refine chkT (fun h => msgB_false fun p => no_of h p.len4) fun h1 => ?_
      refine chkT (fun h => msgB_false fun p => no_of h p.lenP) fun h2 => ?_
      by_cases h4 : 0 ≤ gi m 7 ∧ gi m 7 ≤ 400
      · rw [decide_eq_true h4, msgB_true ⟨hkind.1, hkind.2, hfrom.1, by omega, hto.1, by omega, hne, hterm.1, hterm.2, hprev.1, hprev.2, hpt.1, hpt.2, h4.1, h4.2, yes_of h1, yes_of h2, hz, hit, a, v, b, c⟩]
      · rw [decide_eq_false h4, msgB_false fun p => h4 ⟨p.com0, p.comM⟩]
  have short : ∀ (c4 : gl m 6 = []) (c7 : gi m 7 = 0) (p5 : gi m 5 = 0) (hk : gi m 0 = 1 ∧ gi m 4 = 0 ∨ gi m 0 = 3), some (decide (0 ≤ gi m 4 ∧ gi m 4 ≤ 400)) = some (msgB m) := by
    intro c4 c7 p5 hk
    by_cases h4 : 0 ≤ gi m 4 ∧ gi m 4 ≤ 400
    · rw [decide_eq_true h4, msgB_true ⟨hkind.1, hkind.2, hfrom.1, by omega, hto.1, by omega, hne, hterm.1, hterm.2, h4.1, h4.2, by omega, by omega, by omega, by omega, by rw [c4]; simp, by rw [c4]; simp; omega, by omega, by unfold itemsOkB; rw [c4]; rfl, by omega, fun _ => ⟨by omega, p5, by rw [c4]; rfl, c7⟩, by omega, fun _ => ⟨p5, by rw [c4]; rfl, c7⟩⟩]
    · rw [decide_eq_false h4, msgB_false fun p => h4 ⟨p.prev0, p.prevM⟩]
  by_cases k2 : gi m 0 = 2
  · simp only [k2, decide_true, Bool.not_true, cond_false, show ¬ ((2 : Int) = 1) by decide, show ¬ ((2 : Int) = 3) by decide, decide_false]
    refine chk (fun h => msgB_false fun p => by have := p.add k2; rw [h] at this; cases this) fun h8 => ?_
    refine chk (fun h => msgB_false fun p => not_of h ⟨p.prev0, p.prevM⟩) fun h => ?_
    have hprev := of_not h
    by_cases p0 : gi m 4 = 0
    · simp only [p0, decide_true, cond_true, show ¬ ((0 : Int) < 0) by decide, decide_false, cond_false]
      refine chk (fun h => msgB_false fun p => not_of h ((p.zero (.inr k2)).1 p0)) fun h => ?_
      have p5 := of_not h
      exact fin hprev (by omega) (by omega) (by omega) (by omega) (fun _ => h8) (by omega)
    · simp only [p0, decide_false, cond_false, show (0 : Int) < gi m 4 by omega, decide_true, cond_true]
      refine chk (fun h => msgB_false fun p => not_of h ⟨by have := p.zero (.inr k2); have := p.pt0; omega, p.ptT⟩) fun h => ?_
      have p5 := of_not h
      exact fin hprev (by omega) (by omega) (by omega) (by omega) (fun _ => h8) (by omega)
  simp only [k2, decide_false, Bool.not_false, cond_true]
  refine chk (fun h => msgB_false fun p => ?_) fun h => ?_
  · have hl : (0 : Int) < ((gl m 6).length : Int) := yes_of h
    have h0 := p.ask; have h1 := p.vote; have h3 := p.ack; have := p.kind0; have := p.kind3
    rcases (show gi m 0 = 0 ∨ gi m 0 = 1 ∨ gi m 0 = 3 by omega) with q | q | q
    · have := (h0 q).1; omega
    · have := (h1 q).2.2.1; omega
    · have := (h3 q).2.1; omega
  have c4 : gl m 6 = [] := by have := no_of h; exact List.length_eq_zero_iff.1 (by omega)
  refine chk (fun h => msgB_false fun p => ?_) fun h => ?_
  · have hl := not_of h
    have h0 := p.ask; have h1 := p.vote; have h3 := p.ack; have := p.kind0; have := p.kind3
    rcases (show gi m 0 = 0 ∨ gi m 0 = 1 ∨ gi m 0 = 3 by omega) with q | q | q
    · exact hl (h0 q).2.1
    · exact hl (h1 q).2.2.2
    · exact hl (h3 q).2.2
  have c7 := of_not h
  clear h
  by_cases k1 : gi m 0 = 1
  · simp only [k1, decide_true, cond_true]
    refine chk (fun h => msgB_false fun p => not_of h (p.vote k1).1) fun h => ?_
    have p4 := of_not h
    refine chkT (fun h => msgB_false fun p => no_of h (p.vote k1).2.1) fun h5 => ?_
    exact short c4 c7 (yes_of h5) (.inl ⟨k1, p4⟩)
  simp only [k1, decide_false, cond_false]
  by_cases k3 : gi m 0 = 3
  · simp only [k3, decide_true, cond_true]
    refine chkT (fun h => msgB_false fun p => no_of h (p.ack k3).1) fun h5 => ?_
    exact short c4 c7 (yes_of h5) (.inr k3)
  simp only [k3, decide_false, cond_false]
  have k0 : gi m 0 = 0 := by omega
  refine chk (fun h => msgB_false fun p => by have := (p.ask k0).2.2; rw [h] at this; cases this) fun h8 => ?_
  refine chk (fun h => msgB_false fun p => not_of h ⟨p.prev0, p.prevM⟩) fun h => ?_
  have hprev := of_not h
  by_cases p0 : gi m 4 = 0
  · simp only [p0, decide_true, cond_true, show ¬ ((0 : Int) < 0) by decide, decide_false, cond_false]
    refine chk (fun h => msgB_false fun p => not_of h ((p.zero (.inl k0)).1 p0)) fun h => ?_
    have p5 := of_not h
    exact fin hprev (by omega) (by omega) (fun _ => ⟨by rw [c4]; rfl, c7, h8⟩) (by omega) (by omega) (by omega)
  · simp only [p0, decide_false, cond_false, show (0 : Int) < gi m 4 by omega, decide_true, cond_true]
    refine chk (fun h => msgB_false fun p => not_of h ⟨by have := p.zero (.inl k0); have := p.pt0; omega, p.ptT⟩) fun h => ?_
    have p5 := of_not h
    exact fin hprev (by omega) (by omega) (fun _ => ⟨by rw [c4]; rfl, c7, h8⟩) (by omega) (by omega) (by omega)
end Go.Eng.R
open Go Go.Eng
namespace Go.Eng.R
structure HOk (s : ND) : Prop where
  c : CandOk s
  t0 : 0 ≤ s.term
  t1 : s.term ≤ 100000
  sz : zS z_Item s.log ≤ 1048576
  nexts : s.role = 2 → ∀ i, i < s.votes.length → NextOk s.v i
  mts : s.role = 2 → ∀ i, i < s.mtch.length → 0 ≤ gi (rd s.mtch i) 0 ∧ gi (rd s.mtch i) 0 ≤ (s.log.length : Int)
theorem OwnOk.hOk {n : V} {k : Int} {s : ND} (h : OwnOk n k s) : HOk s := by
  obtain ⟨f0, f1, f2, f4, f5, f6, f7, f8, f9, f10⟩ := h.fields
  have hp := h.p; have hW := h.W; have hl := h.len; have hs := h.size
  have h8 := hp.lvotes; have h9 := hp.lnext; have h10 := hp.lmatch; have hk5 := hp.k5
  have c0 := hp.com0; have c1 := hp.com1; have i0 := hp.id0; have ik := hp.idk; have hle := hp.len; have t0 := hp.term0; have t1 := hp.term1
  refine ⟨⟨hW, by omega, by rw [f10]; omega, by rw [f9, f10]; omega, by rw [f8, f10]; omega, by rw [f10]; omega, by omega, by omega, by omega, by omega, h.nrm⟩, by omega, by omega, hs, fun h2 i hi => ?_, fun h2 i hi => ?_⟩
  · rw [f8] at hi
    obtain ⟨q1, q2, q3, q4⟩ := nextOk_of hp (by rw [← f5]; exact h2) (to := i) (by omega)
    refine ⟨?_, ?_, ?_, ?_⟩
    · show i < s.next.length; rw [f9]; exact q1
    · show 1 ≤ gi (rd s.next i) 0; rw [f9]; exact q2
    · show gi (rd s.next i) 0 ≤ ((s.log.length : Nat) : Int) + 1; rw [f9]; omega
    · show s.log.length ≤ 401; omega
  · have hi : i < (gl n 9).length := by rw [f10] at hi; omega
    have := List.all_eq_true.1 hp.cells i (List.mem_range.2 hi)
    simp only [cellB, show gi n 5 = 2 by omega, decide_true, cond_true, Bool.and_eq_true, decide_eq_true_eq] at this
    rw [f10]; omega
theorem fol_eq (s : ND) (t : Int) : s.fol t = { id := s.id, term := bif decide (s.term < t) then t else s.term, vote := bif decide (s.term < t) then -1 else s.vote, log := s.log, commit := s.commit, role := 0, lead := bif decide (s.term < t) then -1 else s.lead, wait := s.wait, votes := List.replicate s.votes.length (V.bool false), next := List.replicate s.next.length (V.int .i64 0), mtch := List.replicate s.mtch.length (V.int .i64 0) } := by
  unfold ND.fol; cases decide (s.term < t) <;> rfl
theorem HOk.fol {s : ND} (h : HOk s) {t : Int} (ht0 : 0 ≤ t) (ht1 : t ≤ 100000) : HOk (s.fol t) := by
  have hc := h.c; have hW := hc.W; have t0 := h.t0; have t1 := h.t1
  have i0 := hc.id0; have idn := hc.idn; have hn := hc.next; have hv := hc.votes; have hf := hc.few; have hl := hc.log; have c0 := hc.com0; have c1 := hc.com1; have hs := hc.size; have hz := h.sz
  rw [fol_eq]
  have e1 : ∀ (x y : Int), I64 x → I64 y → I64 (bif decide (s.term < t) then x else y) := fun x y hx hy => by cases decide (s.term < t) <;> assumption
  have ht : I64 t := ⟨by omega, by omega⟩
  refine ⟨⟨⟨hW.1, e1 _ _ ht hW.2.1, e1 _ _ I64_m1 hW.2.2.1, hW.2.2.2.1, hW.2.2.2.2.1, I64_0, e1 _ _ I64_m1 hW.2.2.2.2.2.2.1, hW.2.2.2.2.2.2.2.1, ?_, ?_, ?_⟩, i0, ?_, ?_, ?_, ?_, hl, c0, c1, hs, hc.nrm⟩, ?_, ?_, hz, ?_, ?_⟩
  · exact LW_rep' (w := W_bool) (x := V.bool false) trivial (by omega)
  · exact LW_rep' (w := W_int) (x := V.int .i64 0) I64_0 (by omega)
  · exact LW_rep' (w := W_int) (x := V.int .i64 0) I64_0 (by omega)
  · dsimp only; rw [List.length_replicate]; exact idn
  · dsimp only; rw [List.length_replicate, List.length_replicate]; exact hn
  · dsimp only; rw [List.length_replicate, List.length_replicate]; exact hv
  · dsimp only; rw [List.length_replicate]; exact hf
  · dsimp only; cases decide (s.term < t) <;> assumption
  · dsimp only; cases decide (s.term < t) <;> assumption
  · intro h2; cases h2
  · intro h2; cases h2
theorem HOk.stay {s : ND} (h : HOk s) : StepOk' s [] :=
  have hc := h.c; have hf := hc.few; have hn := hc.next; have hv := hc.votes; have hz := h.sz
  StepOk'.none hc.W hc.nrm (by omega) (by omega) (by omega) (by omega)
theorem impl_hear_fol {s : ND} {m : V} (h : s.term < gi m 3) : impl_server_hear (s.sv []) m = impl_server_hear ((s.fol (gi m 3)).sv []) m := by
  have hf := impl_follow_eq s [] (gi m 3)
  have ht : (s.fol (gi m 3)).term = gi m 3 := by rw [fol_eq, decide_eq_true h]; rfl
  unfold impl_server_hear
  rw [show gi (s.sv []) 1 = s.term from rfl, show gi ((s.fol (gi m 3)).sv []) 1 = (s.fol (gi m 3)).term from rfl, ht, decide_eq_true h, decide_eq_false (show ¬ gi m 3 < gi m 3 by omega)]
  simp only [cond_true, cond_false, show n_impl_server (s.sv []) = s.sv [] from rfl, hf, show gi ((s.fol (gi m 3)).sv []) 1 = gi m 3 from ht]
theorem spec_hear_fol {s : ND} {m : V} (hl : s.votes.length ≤ 1000) (h9 : s.next.length = s.votes.length) (h10 : s.mtch.length = s.votes.length) (h : s.term < gi m 3) : spec_l4hear s.v m = spec_l4hear (s.fol (gi m 3)).v m := by
  have hf := spec_follow_eq (s := s) (gi m 3) hl h9 h10
  have ht : (s.fol (gi m 3)).term = gi m 3 := by rw [fol_eq, decide_eq_true h]; rfl
  unfold spec_l4hear
  rw [show gi s.v 1 = s.term from rfl, show gi (s.fol (gi m 3)).v 1 = (s.fol (gi m 3)).term from rfl, ht, decide_eq_true h, decide_eq_false (show ¬ gi m 3 < gi m 3 by omega)]
  simp only [cond_true, cond_false, show n_impl_Node s.v = s.v from rfl, hf, Option.bind_some, show gi (s.fol (gi m 3)).v 1 = gi m 3 from ht]
end Go.Eng.R
open Go Go.Eng
namespace Go.Eng.R
theorem impl_lastTerm_eq {s : ND} (hL : s.log.length ≤ 1000) : impl_Node_lastTerm s.v = some (termL s.log s.log.length) := by
  unfold impl_Node_lastTerm
  have := impl_termAt_eq (n := s.v) (p := s.log.length) (show s.log.length ≤ _ by omega) (by omega)
  rw [show gl s.v 3 = s.log from rfl, this]; rfl
def freshB (s : ND) (m : V) : Bool := decide (termL s.log s.log.length < gi m 5) || (decide (gi m 5 = termL s.log s.log.length) && decide (((s.log.length : Nat) : Int) ≤ gi m 4))
theorem impl_newer_eq {s : ND} (hL : s.log.length ≤ 1000) (m : V) : impl_Node_newer s.v (gi m 4) (gi m 5) = some (freshB s m) := by
  unfold impl_Node_newer freshB
  rw [show n_impl_Node s.v = s.v from rfl, impl_lastTerm_eq hL, show gl s.v 3 = s.log from rfl]
  simp only [Option.bind_some]
  cases decide (termL s.log s.log.length < gi m 5) <;> cases decide (gi m 5 = termL s.log s.log.length) <;> rfl
def yesB (s : ND) (m : V) : Bool := decide (gi m 3 = s.term) && (decide (s.role = 0) && ((decide (s.vote = -1) || decide (s.vote = gi m 1)) && freshB s m))
def ansM (k : Int) (s : ND) (to prev : Int) (y : Bool) : V := V.agg [(V.int .i64 k), (V.int .i64 s.id), (V.int .i64 to), (V.int .i64 s.term), (V.int .i64 prev), (V.int .i64 0), (V.inl t_impl_Item []), (V.int .i64 0), (V.bool y)]
def askR (s : ND) (m : V) : ND × List V := (bif yesB s m then { s with vote := gi m 1, wait := 0 } else s, [ansM 1 s (gi m 1) 0 (yesB s m)])
theorem room1 : ((roomy (([] : List V).length + 1) 88) && true) = true := by rfl
theorem impl_hear_ask {s : ND} {m : V} (h : HOk s) (hk : gi m 0 = 0) (ht : ¬ s.term < gi m 3) : impl_server_hear (s.sv []) m = some ((askR s m).1.sv (askR s m).2) := by
  have hl := h.c.log
  have en := impl_newer_eq (s := s) (by omega) m
  unfold impl_server_hear
  rw [show gi (s.sv []) 1 = s.term from rfl, decide_eq_false ht, hk]
  simp only [cond_false, decide_true, cond_true, show gi (s.sv []) 5 = s.role from rfl, show gi (s.sv []) 2 = s.vote from rfl, show gl (s.sv []) 11 = [] from rfl, show n_impl_Node (s.sv []) = s.v from rfl, en, Option.bind_some, room1]
  unfold askR yesB
  cases decide (gi m 3 = s.term) with
  | false => rfl
  | true =>
    cases decide (s.role = 0) with
    | false => rfl
    | true =>
      cases decide (s.vote = -1) with
      | true => cases freshB s m <;> rfl
      | false =>
        cases decide (s.vote = gi m 1) with
        | false => rfl
        | true => cases freshB s m <;> rfl
theorem spec_vote_eq {s : ND} {m : V} (h : HOk s) : spec_l4vote s.v m = some ((askR s m).2, (askR s m).1.v) := by
  have hl := h.c.log
  have et := spec_termAt_eq (n := s.v) (p := s.log.length) (show s.log.length ≤ _ by omega) (by omega)
  have et' : spec_l4termAt s.v ((s.log.length : Nat) : Int) = some (termL s.log s.log.length) := et
  unfold spec_l4vote
  simp only [show n_impl_Node s.v = s.v from rfl, show gl s.v 3 = s.log from rfl, show gi s.v 5 = s.role from rfl, show gi s.v 2 = s.vote from rfl, show gi s.v 1 = s.term from rfl, et', Option.bind_some]
  unfold askR yesB freshB
  cases decide (termL s.log s.log.length < gi m 5) with
  | true =>
    cases decide (gi m 3 = s.term) with
    | false => rfl
    | true =>
      cases decide (s.role = 0) with
      | false => rfl
      | true =>
        cases decide (s.vote = -1) with
        | true => rfl
        | false => cases decide (s.vote = gi m 1) <;> rfl
  | false =>
    cases decide (gi m 5 = termL s.log s.log.length) with
    | true =>
      cases decide (gi m 3 = s.term) with
      | false => rfl
      | true =>
        cases decide (s.role = 0) with
        | false => rfl
        | true =>
          cases decide (((s.log.length : Nat) : Int) ≤ gi m 4) <;> cases decide (s.vote = -1) <;> cases decide (s.vote = gi m 1) <;> rfl
    | false =>
      cases decide (gi m 3 = s.term) with
      | false => rfl
      | true =>
        cases decide (s.role = 0) with
        | false => rfl
        | true => cases decide (s.vote = -1) <;> cases decide (s.vote = gi m 1) <;> rfl
theorem ansM_ok {s : ND} (hW : W_Node s.v) {k to prev : Int} (hk : I64 k) (hto : I64 to) (hp : I64 prev) (y : Bool) : W_Msg (ansM k s to prev y) :=
  ⟨hk, hW.1, hto, hW.2.1, hp, I64_0, LW.nil, I64_0, trivial⟩
theorem StepOk'.ans {s' s : ND} (h : StepOk' s' []) (hW : W_Node s.v) {k to prev : Int} (hk : I64 k) (hto : I64 to) (hp : I64 prev) (y : Bool) : StepOk' s' [ansM k s to prev y] := by
  refine ⟨h.W, h.nrm, h.size, h.votes, h.next, h.mtch, rfl, by simp, ?_, ⟨by simp, ?_⟩, ?_⟩
  · intro m hm
    obtain rfl := List.mem_singleton.1 hm
    exact ⟨LW.nil, by show zS z_Item [] ≤ _; simp [zS, sumL]⟩
  · intro m hm
    obtain rfl := List.mem_singleton.1 hm
    exact ansM_ok hW hk hto hp y
  · simp only [sumL]
    show 1 + 1 + 1 + 1 + 1 + 1 + sumL c_Item [] + 1 + 1 + 0 ≤ _
    simp [sumL]
theorem HOk.ask {s : ND} (h : HOk s) {m : V} (hm : W_Msg m) : StepOk' (askR s m).1 (askR s m).2 := by
  have hc := h.c; have hf := hc.few; have hn := hc.next; have hv := hc.votes; have hz := h.sz; have hW := hc.W
  refine StepOk'.ans ?_ hW ⟨by decide, by decide⟩ hm.2.1 I64_0 _
  unfold askR
  cases yesB s m with
  | false => exact h.stay
  | true =>
    refine StepOk'.none ⟨hW.1, hW.2.1, hm.2.1, hW.2.2.2.1, hW.2.2.2.2.1, hW.2.2.2.2.2.1, hW.2.2.2.2.2.2.1, I64_0, hW.2.2.2.2.2.2.2.2.1, hW.2.2.2.2.2.2.2.2.2.1, hW.2.2.2.2.2.2.2.2.2.2⟩ hc.nrm ?_ ?_ ?_ ?_
    · show zS z_Item s.log ≤ _; omega
    · show s.votes.length ≤ 5; omega
    · show s.next.length ≤ 5; omega
    · show s.mtch.length ≤ 5; omega
theorem spec_hear_ask {s : ND} {m : V} (h : HOk s) (hk : gi m 0 = 0) (ht : ¬ s.term < gi m 3) : spec_l4hear s.v (n_impl_Msg m) = some ((askR s m).2, (askR s m).1.v) := by
  unfold spec_l4hear
  rw [show gi (n_impl_Msg m) 0 = gi m 0 from rfl, show gi (n_impl_Msg m) 3 = gi m 3 from rfl, show gi s.v 1 = s.term from rfl, decide_eq_false ht, hk]
  simp only [cond_false, decide_true, cond_true, show n_impl_Node s.v = s.v from rfl]
  have e := spec_vote_eq (m := n_impl_Msg (n_impl_Msg m)) h
  rw [e]; rfl
def elect (s : ND) (m : V) : ND := { s with votes := s.votes.set (gi m 1).toNat (V.bool true) }
def voteR (s : ND) (m : V) : ND × List V :=
  bif decide (s.role = 1) && (decide (gi m 3 = s.term) && gb m 8) then (bif mostB (elect s m) then (elect s m).lead'.adv else elect s m, bif mostB (elect s m) then msgsN (elect s m).lead'.adv.v (elect s m).votes.length else []) else (s, [])
theorem HOk.elect {s : ND} (h : HOk s) (m : V) : CandOk (elect s m) := by
  have hc := h.c; have hW := hc.W
  refine ⟨⟨hW.1, hW.2.1, hW.2.2.1, hW.2.2.2.1, hW.2.2.2.2.1, hW.2.2.2.2.2.1, hW.2.2.2.2.2.2.1, hW.2.2.2.2.2.2.2.1, LW_set (w := W_bool) hW.2.2.2.2.2.2.2.2.1 trivial _, hW.2.2.2.2.2.2.2.2.2.1, hW.2.2.2.2.2.2.2.2.2.2⟩, hc.id0, hc.idn, hc.next, ?_, hc.few, hc.log, hc.com0, hc.com1, hc.size, hc.nrm⟩
  show (s.votes.set _ _).length = _
  rw [List.length_set]; exact hc.votes
theorem impl_hear_vote {s : ND} {m : V} (h : HOk s) (hk : gi m 0 = 1) (ht : ¬ s.term < gi m 3) (hm0 : 0 ≤ gi m 1) (hm : gi m 1 < (s.votes.length : Int)) : impl_server_hear (s.sv []) m = some ((voteR s m).1.sv (voteR s m).2) := by
  have hix : idxOk (gi m 1) s.votes.length = true := by
    rw [show gi m 1 = (((gi m 1).toNat : Nat) : Int) by omega]; exact idxOk_nat (by omega)
  have li := impl_lead_eq (h.elect m) (out := []) (by simp)
  unfold impl_server_hear
  rw [show gi (s.sv []) 1 = s.term from rfl, decide_eq_false ht, hk]
  simp only [cond_false, decide_true, cond_true, show ¬ ((1 : Int) = 0) by decide, decide_false, show gi (s.sv []) 5 = s.role from rfl, show gl (s.sv []) 8 = s.votes from rfl, hix, Nat.zero_add]
  unfold voteR
  cases decide (s.role = 1) with
  | false => rfl
  | true =>
    cases decide (gi m 3 = s.term) with
    | false => rfl
    | true =>
      cases gb m 8 with
      | false => rfl
      | true =>
        refine Eq.trans (congrArg (fun o => Option.bind o _) (show _ = some _ from li)) ?_
        cases mostB (elect s m) <;> rfl
theorem spec_hear_vote {s : ND} {m : V} (h : HOk s) (hk : gi m 0 = 1) (ht : ¬ s.term < gi m 3) (hm0 : 0 ≤ gi m 1) (hm : gi m 1 < (s.votes.length : Int)) : spec_l4hear s.v m = some ((voteR s m).2, (voteR s m).1.v) := by
  have hix : idxOk (gi m 1) s.votes.length = true := by
    rw [show gi m 1 = (((gi m 1).toNat : Nat) : Int) by omega]; exact idxOk_nat (by omega)
  have li := spec_lead_eq (h.elect m)
  unfold spec_l4hear
  rw [show gi s.v 1 = s.term from rfl, decide_eq_false ht, hk]
  simp only [cond_false, decide_true, cond_true, show ¬ ((1 : Int) = 0) by decide, decide_false, show gi s.v 5 = s.role from rfl, show gl s.v 8 = s.votes from rfl, hix, Nat.zero_add]
  unfold voteR
  cases decide (s.role = 1) with
  | false => rfl
  | true =>
    cases decide (gi m 3 = s.term) with
    | false => rfl
    | true =>
      cases gb m 8 with
      | false => rfl
      | true =>
        refine Eq.trans (congrArg (fun o => Option.bind o _) (show _ = some _ from li)) ?_
        cases mostB (elect s m) <;> rfl
theorem HOk.vote {s : ND} (h : HOk s) (m : V) : StepOk' (voteR s m).1 (voteR s m).2 := by
  unfold voteR
  cases decide (s.role = 1) && (decide (gi m 3 = s.term) && gb m 8) with
  | false => exact h.stay
  | true => exact StepOk'.cand (h.elect m)
end Go.Eng.R
open Go Go.Eng
namespace Go.Eng.R
theorem scanC_ge (s : ND) (c : Nat) : ∀ j, c ≤ scanC s c j
  | 0 => Nat.le_refl _
  | j + 1 => by
    have := scanC_ge s c j
    simp only [scanC]
    cases (decide (termL s.log (c + (j + 1)) = s.term) && decide ((s.votes.length : Int) < 2 * ((cntGe (((c + (j + 1) : Nat)) : Int) s.mtch : Nat) : Int))) <;> simp <;> omega
theorem adv_commit {s : ND} (h : 0 ≤ s.commit) : s.commit ≤ s.adv.commit := by
  have := scanC_ge s.mark s.commit.toNat (s.log.length - s.commit.toNat)
  show s.commit ≤ ((scanC s.mark s.commit.toNat (s.log.length - s.commit.toNat) : Nat) : Int)
  omega
def ND.setN (s : ND) (j : Nat) (k : Int) : ND := { s with next := s.next.set j (V.int .i64 k) }
def ND.got (s : ND) (j : Nat) (p : Int) : ND := { s with next := s.next.set j (V.int .i64 (p + 1)), mtch := s.mtch.set j (V.int .i64 p) }
def backR (s : ND) (j : Nat) (k : Int) : ND × List V := bif decide (gi (rd s.mtch j) 0 < k) then (s.setN j k, [addN (s.setN j k).v j]) else (s, [])
def gotR (s : ND) (j : Nat) (p : Int) : ND × List V :=
  bif !decide ((s.got j p).adv.commit = s.commit) then ((s.got j p).adv, msgsN (s.got j p).adv.v s.votes.length)
  else bif decide (gi (rd (s.got j p).adv.next j) 0 ≤ ((s.log.length : Nat) : Int)) then ((s.got j p).adv, [addN (s.got j p).adv.v j])
  else ((s.got j p).adv, [])
def ackR (s : ND) (m : V) (j : Nat) : ND × List V :=
  bif !decide (s.role = 2) then (s, [])
  else bif !decide (gi m 3 = s.term) then (s, [])
  else bif !gb m 8 then backR s j (mxI 1 (mnI (gi (rd s.next j) 0 - 1) (gi m 4 + 1)))
  else bif decide (((s.log.length : Nat) : Int) < gi m 4) then (s, [])
  else bif decide (gi m 4 ≤ gi (rd s.mtch j) 0) then (s, [])
  else gotR s j (gi m 4)
theorem rd_set_eq {l : List V} {j : Nat} (h : j < l.length) (x : V) : rd (l.set j x) j = x := by simp [rd, List.getD, h]
theorem HOk.setN {s : ND} (h : HOk s) (h2 : s.role = 2) {j : Nat} (hj : j < s.votes.length) {k : Int} (k1 : 1 ≤ k) (k2 : k ≤ (s.log.length : Int) + 1) : W_Node (s.setN j k).v ∧ NextOk (s.setN j k).v j := by
  have hc := h.c; have hW := hc.W; have hl := hc.log; have hn := hc.next; have hv := hc.votes
  have hjn : j < s.next.length := by omega
  refine ⟨⟨hW.1, hW.2.1, hW.2.2.1, hW.2.2.2.1, hW.2.2.2.2.1, hW.2.2.2.2.2.1, hW.2.2.2.2.2.2.1, hW.2.2.2.2.2.2.2.1, hW.2.2.2.2.2.2.2.2.1, LW_set (w := W_int) hW.2.2.2.2.2.2.2.2.2.1 ⟨by show (-9223372036854775808 : Int) ≤ k; omega, by show k ≤ 9223372036854775807; omega⟩ _, hW.2.2.2.2.2.2.2.2.2.2⟩, ?_, ?_, ?_, ?_⟩
  · show j < (s.next.set j _).length; rw [List.length_set]; exact hjn
  · show 1 ≤ gi (rd (s.next.set j (V.int .i64 k)) j) 0; rw [rd_set_eq hjn]; exact k1
  · show gi (rd (s.next.set j (V.int .i64 k)) j) 0 ≤ ((s.log.length : Nat) : Int) + 1; rw [rd_set_eq hjn]; exact k2
  · show s.log.length ≤ 401; omega
theorem step_one {s : ND} (h : StepOk' s []) {j : Nat} (hN : NextOk s.v j) (hj : j ≤ 1000) : StepOk' s [addN s.v j] := by
  have hz := h.size; have hW := h.W
  have h6 := itemsN_z (n := s.v) (prevN s.v j)
  have hz' : zS z_Item (gl s.v 3) ≤ 3000000 := hz
  refine ⟨h.W, h.nrm, h.size, h.votes, h.next, h.mtch, by simp [ownM_addN], by simp, ?_, ⟨by simp, ?_⟩, ?_⟩
  · intro m hm
    obtain rfl := List.mem_singleton.1 hm
    exact ⟨itemsN_W hW _, by show zS z_Item (itemsN s.v (prevN s.v j)) ≤ _; omega⟩
  · intro m hm
    obtain rfl := List.mem_singleton.1 hm
    exact addN_W hW hN (by omega)
  · have := addN_c (n := s.v) (to := j) (by show zS z_Item s.log ≤ _; omega)
    simp only [sumL]; omega
theorem HOk.got {s : ND} (h : HOk s) (h2 : s.role = 2) {j : Nat} (hj : j < s.votes.length) {p : Int} (p0 : 0 ≤ p) (p1 : p ≤ (s.log.length : Int)) : LeadOk (s.got j p) := by
  have hc := h.c; have hW := hc.W; have hl := hc.log; have hn := hc.next; have hv := hc.votes; have hf := hc.few
  have hjn : j < s.next.length := by omega
  refine ⟨⟨hW.1, hW.2.1, hW.2.2.1, hW.2.2.2.1, hW.2.2.2.2.1, hW.2.2.2.2.2.1, hW.2.2.2.2.2.2.1, hW.2.2.2.2.2.2.2.1, hW.2.2.2.2.2.2.2.2.1, LW_set (w := W_int) hW.2.2.2.2.2.2.2.2.2.1 ⟨by show (-9223372036854775808 : Int) ≤ p + 1; omega, by show p + 1 ≤ 9223372036854775807; omega⟩ _, LW_set (w := W_int) hW.2.2.2.2.2.2.2.2.2.2 ⟨by show (-9223372036854775808 : Int) ≤ p; omega, by show p ≤ 9223372036854775807; omega⟩ _⟩, hc.id0, ?_, ?_, ?_, ?_, by show s.log.length ≤ 401; omega, hc.com0, hc.com1, by have := hc.size; show zS z_Item s.log ≤ _; omega, fun i hi hne => ?_⟩
  · show s.id < (((s.mtch.set j _).length : Nat) : Int); rw [List.length_set]; exact hc.idn
  · show (s.next.set j _).length = (s.mtch.set j _).length; rw [List.length_set, List.length_set]; exact hn
  · show s.votes.length = (s.mtch.set j _).length; rw [List.length_set]; exact hv
  · show (s.mtch.set j _).length ≤ 5; rw [List.length_set]; exact hf
  · by_cases e : i = j
    · subst e
      refine ⟨?_, ?_, ?_, ?_⟩
      · show i < (s.next.set i _).length; rw [List.length_set]; exact hjn
      · show 1 ≤ gi (rd (s.next.set i (V.int .i64 (p + 1))) i) 0; rw [rd_set_eq hjn]; show 1 ≤ p + 1; omega
      · show gi (rd (s.next.set i (V.int .i64 (p + 1))) i) 0 ≤ ((s.log.length : Nat) : Int) + 1; rw [rd_set_eq hjn]; show p + 1 ≤ _; omega
      · show s.log.length ≤ 401; omega
    · obtain ⟨q1, q2, q3, q4⟩ := h.nexts h2 i hi
      refine ⟨?_, ?_, ?_, ?_⟩
      · show i < (s.next.set j _).length; rw [List.length_set]; exact q1
      · show 1 ≤ gi (rd (s.next.set j (V.int .i64 (p + 1))) i) 0; rw [rd_set_ne e]; exact q2
      · show gi (rd (s.next.set j (V.int .i64 (p + 1))) i) 0 ≤ ((s.log.length : Nat) : Int) + 1; rw [rd_set_ne e]; exact q3
      · exact q4
theorem kback {s : ND} (h : HOk s) (h2 : s.role = 2) {j : Nat} (hj : j < s.votes.length) {p : Int} (p0 : 0 ≤ p) : 1 ≤ mxI 1 (mnI (gi (rd s.next j) 0 - 1) (p + 1)) ∧ mxI 1 (mnI (gi (rd s.next j) 0 - 1) (p + 1)) ≤ (s.log.length : Int) + 1 := by
  obtain ⟨q1, q2, q3, q4⟩ := h.nexts h2 j hj
  have q2 : 1 ≤ gi (rd s.next j) 0 := q2
  have q3 : gi (rd s.next j) 0 ≤ (s.log.length : Int) + 1 := q3
  unfold mxI mnI
  split <;> split <;> omega
theorem HOk.ackOk {s : ND} (h : HOk s) {m : V} (hp : MsgP m) {j : Nat} (hj : j < s.votes.length) (hne : (j : Int) ≠ s.id) : StepOk' (ackR s m j).1 (ackR s m j).2 := by
  have hc := h.c; have hf := hc.few; have hv := hc.votes; have hn := hc.next; have hz := h.sz
  unfold ackR
  by_cases h2 : s.role = 2
  case neg => rw [decide_eq_false h2]; exact h.stay
  rw [decide_eq_true h2]
  cases decide (gi m 3 = s.term) with
  | false => exact h.stay
  | true =>
    cases gb m 8 with
    | false =>
      obtain ⟨k1, k2⟩ := kback h h2 hj (p := gi m 4) hp.prev0
      show StepOk' (backR s j _).1 (backR s j _).2
      unfold backR
      cases decide (gi (rd s.mtch j) 0 < mxI 1 (mnI (gi (rd s.next j) 0 - 1) (gi m 4 + 1))) with
      | false => exact h.stay
      | true =>
        obtain ⟨w1, w2⟩ := h.setN h2 hj k1 k2
        refine step_one (StepOk'.none w1 hc.nrm ?_ ?_ ?_ ?_) w2 (by omega)
        · show zS z_Item s.log ≤ _; omega
        · show s.votes.length ≤ 5; omega
        · show (s.next.set j _).length ≤ 5; rw [List.length_set]; omega
        · show s.mtch.length ≤ 5; omega
    | true =>
      by_cases hl : ((s.log.length : Nat) : Int) < gi m 4
      · rw [decide_eq_true hl]; exact h.stay
      · rw [decide_eq_false hl]
        cases decide (gi m 4 ≤ gi (rd s.mtch j) 0) with
        | true => exact h.stay
        | false =>
          have hL := h.got h2 hj (p := gi m 4) hp.prev0 (by omega)
          have hS := StepOk'.led hL hc.nrm (by show zS z_Item s.log ≤ _; omega)
          show StepOk' (gotR s j (gi m 4)).1 (gotR s j (gi m 4)).2
          have hS0 : StepOk' (s.got j (gi m 4)).adv [] := StepOk'.none hS.W hS.nrm hS.size hS.votes hS.next hS.mtch
          unfold gotR
          cases decide ((s.got j (gi m 4)).adv.commit = s.commit) with
          | false => exact hS
          | true =>
            cases decide (gi (rd (s.got j (gi m 4)).adv.next j) 0 ≤ ((s.log.length : Nat) : Int)) with
            | false => exact hS0
            | true => exact step_one hS0 (hL.adv.2 j hj hne) (by omega)
theorem impl_ack_eq {s : ND} (h : HOk s) {m : V} (hp : MsgP m) {j : Nat} (hj : j < s.votes.length) (hne : (j : Int) ≠ s.id) (hm : gi m 1 = (j : Int)) : impl_server_ack (s.sv []) m = some ((ackR s m j).1.sv (ackR s m j).2) := by
  have hc := h.c; have hf := hc.few; have hv := hc.votes; have hn := hc.next; have hl := hc.log; have hz := h.sz
  have i9 : idxOk (j : Int) s.next.length = true := idxOk_nat (by omega)
  have i10 : idxOk (j : Int) s.mtch.length = true := idxOk_nat (by omega)
  have p0 := hp.prev0; have pM := hp.prevM
  unfold impl_server_ack ackR
  simp only [hm, show gi (s.sv []) 5 = s.role from rfl, show gi (s.sv []) 1 = s.term from rfl, show gl (s.sv []) 9 = s.next from rfl, show gl (s.sv []) 10 = s.mtch from rfl, show gl (s.sv []) 3 = s.log from rfl, i9, i10, cond_true, Nat.zero_add, Int.toNat_natCast]
  by_cases h2 : s.role = 2
  case neg => rw [decide_eq_false h2]; rfl
  rw [decide_eq_true h2]
  obtain ⟨q1, q2, q3, q4⟩ := h.nexts h2 j hj
  have q2 : 1 ≤ gi (rd s.next j) 0 := q2
  have q3 : gi (rd s.next j) 0 ≤ (s.log.length : Int) + 1 := q3
  rw [wr64' (n := gi m 4 + 1) (by omega) (by omega), wr64' (n := gi (rd s.next j) 0 - 1) (by omega) (by omega)]
  cases decide (gi m 3 = s.term) with
  | false => rfl
  | true =>
    cases gb m 8 with
    | false =>
      obtain ⟨k1, k2⟩ := kback h h2 hj (p := gi m 4) hp.prev0
      obtain ⟨w1, w2⟩ := h.setN h2 hj k1 k2
      have es := impl_send_eq (s := s.setN j (mxI 1 (mnI (gi (rd s.next j) 0 - 1) (gi m 4 + 1)))) (out := []) w1 (by show zS z_Item s.log ≤ _; omega) w2 (by simp)
      simp only [Bool.not_true, Bool.not_false, cond_false, cond_true, backR]
      cases decide (gi (rd s.mtch j) 0 < mxI 1 (mnI (gi (rd s.next j) 0 - 1) (gi m 4 + 1))) with
      | false => rfl
      | true => exact Eq.trans (congrArg (fun o => Option.bind o _) (show _ = some _ from es)) rfl
    | true =>
      by_cases hl' : ((s.log.length : Nat) : Int) < gi m 4
      · rw [decide_eq_true hl']; rfl
      rw [decide_eq_false hl']
      cases decide (gi m 4 ≤ gi (rd s.mtch j) 0) with
      | true => rfl
      | false =>
        have hL := h.got h2 hj (p := gi m 4) hp.prev0 (by omega)
        have ea := impl_advance_eq (s := s.got j (gi m 4)) (out := []) hL.id0 hL.idn hL.next hL.votes (by have := hL.few; omega) (by have := hL.log; omega) hL.com0 hL.com1
        have eA := impl_sendAll_eq (s := (s.got j (gi m 4)).adv) (out := []) hL.adv.1 hL.size (show s.votes.length ≤ 1000 by omega) hL.adv.2 (by simp)
        have eS := impl_send_eq (s := (s.got j (gi m 4)).adv) (out := []) hL.adv.1 hL.size (hL.adv.2 j hj hne) (by simp)
        simp only [Bool.not_true, Bool.not_false, cond_false, cond_true]
        refine Eq.trans (congrArg (fun o => Option.bind o _) (show _ = some ((s.got j (gi m 4)).adv.sv []) from ea)) ?_
        have i9' : idxOk (j : Int) (s.got j (gi m 4)).adv.next.length = true := by
          refine idxOk_nat ?_
          show j < (((s.next.set j _).set _ _).length)
          rw [List.length_set, List.length_set]; omega
        simp only [Option.bind_some, show gi ((s.got j (gi m 4)).adv.sv []) 4 = (s.got j (gi m 4)).adv.commit from rfl, show gl ((s.got j (gi m 4)).adv.sv []) 9 = (s.got j (gi m 4)).adv.next from rfl, show gl ((s.got j (gi m 4)).adv.sv []) 3 = s.log from rfl, show gi (s.sv []) 4 = s.commit from rfl, i9', cond_true, show n_impl_server ((s.got j (gi m 4)).adv.sv []) = (s.got j (gi m 4)).adv.sv [] from rfl, eA, eS]
        unfold gotR
        cases decide ((s.got j (gi m 4)).adv.commit = s.commit) with
        | false => rfl
        | true => cases decide (gi (rd (s.got j (gi m 4)).adv.next j) 0 ≤ ((s.log.length : Nat) : Int)) <;> rfl
theorem spec_ack_eq {s : ND} (h : HOk s) {m : V} (hp : MsgP m) {j : Nat} (hj : j < s.votes.length) (hne : (j : Int) ≠ s.id) (hm : gi m 1 = (j : Int)) : spec_l4ack s.v m = some ((ackR s m j).2, (ackR s m j).1.v) := by
  have hc := h.c; have hf := hc.few; have hv := hc.votes; have hn := hc.next; have hl := hc.log; have hz := h.sz
  have i9 : idxOk (j : Int) s.next.length = true := idxOk_nat (by omega)
  have i10 : idxOk (j : Int) s.mtch.length = true := idxOk_nat (by omega)
  have p0 := hp.prev0; have pM := hp.prevM
  unfold spec_l4ack ackR
  simp only [hm, show gi s.v 5 = s.role from rfl, show gi s.v 1 = s.term from rfl, show gl s.v 9 = s.next from rfl, show gl s.v 10 = s.mtch from rfl, show gl s.v 3 = s.log from rfl, i9, i10, cond_true, Nat.zero_add, Int.toNat_natCast]
  by_cases h2 : s.role = 2
  case neg => rw [decide_eq_false h2]; rfl
  rw [decide_eq_true h2]
  obtain ⟨q1, q2, q3, q4⟩ := h.nexts h2 j hj
  have q2 : 1 ≤ gi (rd s.next j) 0 := q2
  have q3 : gi (rd s.next j) 0 ≤ (s.log.length : Int) + 1 := q3
  rw [wr64' (n := gi m 4 + 1) (by omega) (by omega), wr64' (n := gi (rd s.next j) 0 - 1) (by omega) (by omega)]
  cases decide (gi m 3 = s.term) with
  | false => rfl
  | true =>
    cases gb m 8 with
    | false =>
      obtain ⟨k1, k2⟩ := kback h h2 hj (p := gi m 4) hp.prev0
      have fin : ∀ k : Int, k = mxI 1 (mnI (gi (rd s.next j) 0 - 1) (gi m 4 + 1)) → (bif decide (k ≤ gi (rd s.mtch j) 0) then some (([] : List V), s.v) else
          Option.bind (spec_l4add_v1 (s.setN j k).v (j : Int)) fun r => some ([n_impl_Msg r.1], n_impl_Node r.2)) = some ((backR s j (mxI 1 (mnI (gi (rd s.next j) 0 - 1) (gi m 4 + 1)))).2, (backR s j (mxI 1 (mnI (gi (rd s.next j) 0 - 1) (gi m 4 + 1)))).1.v) := by
        rintro k rfl
        obtain ⟨w1, w2⟩ := h.setN h2 hj k1 k2
        have es : spec_l4add_v1 (s.setN j (mxI 1 (mnI (gi (rd s.next j) 0 - 1) (gi m 4 + 1)))).v (j : Int) = _ := spec_l4add_v1_eq w1 w2
        unfold backR
        by_cases hk : gi (rd s.mtch j) 0 < mxI 1 (mnI (gi (rd s.next j) 0 - 1) (gi m 4 + 1))
        · rw [decide_eq_true hk, decide_eq_false (show ¬ mxI 1 (mnI (gi (rd s.next j) 0 - 1) (gi m 4 + 1)) ≤ gi (rd s.mtch j) 0 by omega), es]; rfl
        · rw [decide_eq_false hk, decide_eq_true (show mxI 1 (mnI (gi (rd s.next j) 0 - 1) (gi m 4 + 1)) ≤ gi (rd s.mtch j) 0 by omega)]; rfl
      simp only [Bool.not_true, Bool.not_false, cond_false, cond_true]
      by_cases a : gi m 4 + 1 < gi (rd s.next j) 0 - 1
      · rw [decide_eq_true a, decide_eq_false (show ¬ gi m 4 + 1 < 1 by omega)]
        exact fin (gi m 4 + 1) (by unfold mxI mnI; split <;> split <;> omega)
      · rw [decide_eq_false a]
        by_cases b : gi (rd s.next j) 0 - 1 < 1
        · rw [decide_eq_true b]
          exact fin 1 (by unfold mxI mnI; split <;> split <;> omega)
        · rw [decide_eq_false b]
          exact fin (gi (rd s.next j) 0 - 1) (by unfold mxI mnI; split <;> split <;> omega)
    | true =>
      by_cases hl' : ((s.log.length : Nat) : Int) < gi m 4
      · rw [decide_eq_true hl']; rfl
      rw [decide_eq_false hl']
      cases decide (gi m 4 ≤ gi (rd s.mtch j) 0) with
      | true => rfl
      | false =>
        have hL := h.got h2 hj (p := gi m 4) hp.prev0 (by omega)
        have ea := spec_l4commit_eq (s := s.got j (gi m 4)) hL.id0 hL.idn hL.next hL.votes (by have := hL.few; omega) (by have := hL.log; omega) hL.com0 hL.com1
        have eA := spec_l4all_v1_eq (s := (s.got j (gi m 4)).adv) hL.adv.1 (show s.votes.length ≤ 1000 by omega) hL.adv.2
        have eS : spec_l4add_v1 (s.got j (gi m 4)).adv.v (j : Int) = _ := spec_l4add_v1_eq hL.adv.1 (hL.adv.2 j hj hne)
        have hge := adv_commit (s := s.got j (gi m 4)) hL.com0
        have hge : s.commit ≤ (s.got j (gi m 4)).adv.commit := hge
        simp only [Bool.not_true, Bool.not_false, cond_false, cond_true]
        refine Eq.trans (congrArg (fun o => Option.bind o _) (show _ = some ((s.got j (gi m 4)).adv.v) from ea)) ?_
        have i9' : idxOk (j : Int) (s.got j (gi m 4)).adv.next.length = true := by
          refine idxOk_nat ?_
          show j < (((s.next.set j _).set _ _).length)
          rw [List.length_set, List.length_set]; omega
        simp only [Option.bind_some, show gi ((s.got j (gi m 4)).adv.v) 4 = (s.got j (gi m 4)).adv.commit from rfl, show gl ((s.got j (gi m 4)).adv.v) 9 = (s.got j (gi m 4)).adv.next from rfl, show gl ((s.got j (gi m 4)).adv.v) 3 = s.log from rfl, show gi s.v 4 = s.commit from rfl, i9', cond_true, show n_impl_Node ((s.got j (gi m 4)).adv.v) = (s.got j (gi m 4)).adv.v from rfl, eA, eS]
        unfold gotR
        by_cases hcm : (s.got j (gi m 4)).adv.commit = s.commit
        · rw [decide_eq_true hcm, decide_eq_false (show ¬ s.commit < (s.got j (gi m 4)).adv.commit by omega)]
          cases decide (gi (rd (s.got j (gi m 4)).adv.next j) 0 ≤ ((s.log.length : Nat) : Int)) <;> rfl
        · rw [decide_eq_false hcm, decide_eq_true (show s.commit < (s.got j (gi m 4)).adv.commit by omega)]; rfl
end Go.Eng.R
open Go Go.Eng
namespace Go.Eng.R
theorem impl_cmdOwn_eq {c : V} (h3 : (gl c 3).length ≤ 4000000) (h4 : (gl c 4).length ≤ 4000000) : impl_Cmd_own (n_laws_Cmd c) = some (n_laws_Cmd c) := by
  unfold impl_Cmd_own impl_Op_own
  simp only [gl_c0, gl_cs, gi_c0, gi_cs, show gl (n_laws_Cmd c) 3 = gl c 3 from rfl, show gl (n_laws_Cmd c) 4 = gl c 4 from rfl, impl_clone_eq h3, impl_clone_eq h4, Option.bind_some]
  rfl
def stepC (f : ND) (items : List V) (p i : Nat) : Bool := !(decide (((p + i : Nat) : Int) < f.commit)) || decide (gi (rd f.log (p + i)) 0 = gi (rd items i) 0)
def takeS (items : List V) (p : Nat) (log : List V) : Nat → List V
  | 0 => log
  | i + 1 =>
    bif decide (p + i < (takeS items p log i).length) then
      bif decide (gi (rd (takeS items p log i) (p + i)) 0 = gi (rd items i) 0) then takeS items p log i
      else (takeS items p log i).take (p + i) ++ [n_laws_Item (rd items i)]
    else takeS items p log i ++ [n_laws_Item (rd items i)]
theorem takeS_len {items : List V} {p : Nat} {log : List V} (hp : p ≤ log.length) : ∀ i, p + i ≤ (takeS items p log i).length ∧ (takeS items p log i).length ≤ max log.length (p + i)
  | 0 => ⟨hp, Nat.le_max_left _ _⟩
  | i + 1 => by
    obtain ⟨h1, h2⟩ := takeS_len (items := items) hp i
    simp only [takeS]
    by_cases c : p + i < (takeS items p log i).length
    · rw [decide_eq_true c]
      by_cases e : gi (rd (takeS items p log i) (p + i)) 0 = gi (rd items i) 0
      · rw [decide_eq_true e]
        exact ⟨by show p + (i + 1) ≤ (takeS items p log i).length; omega, by show (takeS items p log i).length ≤ _; omega⟩
      · rw [decide_eq_false e]
        simp only [cond_true, cond_false, List.length_append, List.length_take, List.length_singleton]
        omega
    · rw [decide_eq_false c]
      simp only [cond_false, List.length_append, List.length_singleton]
      omega
theorem zS_take (z : V → Nat) (l : List V) (i : Nat) : zS z (l.take i) ≤ zS z l := by
  have := sumL_take_le z l i
  simp only [zS, List.length_take]; omega
theorem zS_rd {z : V → Nat} {l : List V} {i : Nat} (h : i < l.length) : zS z (l.take (i + 1)) = zS z (l.take i) + (1 + z (rd l i)) := by
  rw [take_rd h, zS_append]
  simp [zS, sumL]
theorem takeS_z {items : List V} {p : Nat} {log : List V} : ∀ i, i ≤ items.length → zS z_Item (takeS items p log i) ≤ zS z_Item log + zS z_Item (items.take i)
  | 0, _ => by simp [takeS]
  | i + 1, h => by
    have ih := takeS_z (items := items) (p := p) (log := log) i (by omega)
    have e := zS_rd (z := z_Item) (l := items) (i := i) (by omega)
    have ez : zS z_Item [n_laws_Item (rd items i)] = 1 + z_Item (rd items i) := by simp [zS, sumL]; rfl
    have ht := zS_take z_Item (takeS items p log i) (p + i)
    simp only [takeS]
    cases decide (p + i < (takeS items p log i).length) with
    | true =>
      cases decide (gi (rd (takeS items p log i) (p + i)) 0 = gi (rd items i) 0) with
      | true => show zS z_Item (takeS items p log i) ≤ _; omega
      | false => show zS z_Item ((takeS items p log i).take (p + i) ++ [n_laws_Item (rd items i)]) ≤ _; rw [zS_append, ez]; omega
    | false => show zS z_Item (takeS items p log i ++ [n_laws_Item (rd items i)]) ≤ _; rw [zS_append, ez]; omega
theorem takeS_W {items : List V} {p : Nat} {log : List V} (hi : LW W_Item items) (hl : LW W_Item log) (hp : p ≤ log.length) (hb : log.length ≤ 1000) (hpb : p + items.length ≤ 1000) : ∀ i, i ≤ items.length → LW W_Item (takeS items p log i)
  | 0, _ => hl
  | i + 1, h => by
    have ih := takeS_W hi hl hp hb hpb i (by omega)
    obtain ⟨h1, h2⟩ := takeS_len (items := items) hp i
    have hx : W_Item (n_laws_Item (rd items i)) := hi.rd (i := i) (by omega)
    simp only [takeS]
    cases decide (p + i < (takeS items p log i).length) with
    | true =>
      cases decide (gi (rd (takeS items p log i) (p + i)) 0 = gi (rd items i) 0) with
      | true => exact ih
      | false =>
        refine ⟨?_, fun y hy => ?_⟩
        · show ((takeS items p log i).take (p + i) ++ [n_laws_Item (rd items i)]).length ≤ _
          rw [List.length_append, List.length_take, List.length_singleton]; omega
        · rcases List.mem_append.1 (show y ∈ (takeS items p log i).take (p + i) ++ [n_laws_Item (rd items i)] from hy) with hy | hy
          · exact ih.2 y (List.mem_of_mem_take hy)
          · obtain rfl := List.mem_singleton.1 hy
            exact hx
    | false =>
      refine ⟨?_, fun y hy => ?_⟩
      · show (takeS items p log i ++ [n_laws_Item (rd items i)]).length ≤ _
        rw [List.length_append, List.length_singleton]; omega
      · rcases List.mem_append.1 (show y ∈ takeS items p log i ++ [n_laws_Item (rd items i)] from hy) with hy | hy
        · exact ih.2 y hy
        · obtain rfl := List.mem_singleton.1 hy
          exact hx
theorem nrm_take {l : List V} (h : Nrm l) (i : Nat) : Nrm (l.take i) := by unfold Nrm at *; rw [List.map_take, h]
theorem takeS_nrm {items : List V} {p : Nat} {log : List V} (h : Nrm log) : ∀ i, Nrm (takeS items p log i)
  | 0 => h
  | i + 1 => by
    have ih := takeS_nrm (items := items) (p := p) h i
    have hx : Nrm [n_laws_Item (rd items i)] := rfl
    simp only [takeS]
    cases decide (p + i < (takeS items p log i).length) with
    | true =>
      cases decide (gi (rd (takeS items p log i) (p + i)) 0 = gi (rd items i) 0) with
      | true => exact ih
      | false => exact nrm_append (nrm_take ih _) hx
    | false => exact nrm_append ih hx
theorem impl_chk_run {f : ND} {m : V} {out : List V} {p : Nat} (hp : gi m 4 = (p : Int)) (hpb : p ≤ 400) (hi : (gl m 6).length ≤ 4) (hL : f.log.length ≤ 1000) (hc : f.commit ≤ (f.log.length : Int)) :
    impl_server_add_l10 ((gl m 6).length + 1) (gl m 6) (((gl m 6).length : Nat) : Int) 0 (f.b 2 3 4 5 6) (n_impl_Msg m) f.log f.votes f.next f.mtch out =
      bif (List.range (gl m 6).length).all (stepC f (gl m 6) p) then some (1, 0, false, f.b 2 3 4 5 6, n_impl_Msg m, f.log, f.votes, f.next, f.mtch, out) else some (0, f.commit, false, f.b 2 3 4 5 6, n_impl_Msg m, f.log, f.votes, f.next, f.mtch, out) := by
  refine all_range (F := fun k i => impl_server_add_l10 k (gl m 6) (((gl m 6).length : Nat) : Int) i (f.b 2 3 4 5 6) (n_impl_Msg m) f.log f.votes f.next f.mtch out) (fun k i hi' => ?_) (fun k => ?_)
  · show impl_server_add_l10 (k + 1) _ _ (i : Int) _ _ _ _ _ _ _ = _
    rw [impl_server_add_l10]
    have e1 : IntKind.i64.wrap (IntKind.i64.wrap ((p : Int) + 1) + (i : Int)) = ((p + i + 1 : Nat) : Int) := by rw [wr64' (n := (p : Int) + 1) (by omega) (by omega), wr64' (by omega) (by omega)]; omega
    have et := impl_termAt_eq (n := f.v) (p := p + i + 1) (show f.log.length ≤ _ by omega) (by omega)
    have et' : impl_Node_termAt (V.agg [(V.int .i64 f.id), (V.int .i64 f.term), (V.int .i64 f.vote), (V.inl t_impl_Item f.log), (V.int .i64 f.commit), (V.int .i64 f.role), (V.int .i64 f.lead), (V.int .i64 f.wait), (V.inl t_bool f.votes), (V.inl t_int' f.next), (V.inl t_int' f.mtch)]) ((p + i + 1 : Nat) : Int) = some (termL f.log (p + i + 1)) := et
    simp only [show gi (n_impl_Msg m) 4 = gi m 4 from rfl, hp, e1, ND.b, gi_c0, gi_cs, lt_nat hi', idxOk_nat hi', Int.toNat_natCast, cond_true, et', Option.bind_some, wr_succ hi' (show (gl m 6).length ≤ 9223372036854775807 by omega)]
    unfold stepC
    by_cases h : ((p + i + 1 : Nat) : Int) ≤ f.commit
    · rw [decide_eq_true h, decide_eq_true (show ((p + i : Nat) : Int) < f.commit by omega)]
      have e2 : termL f.log (p + i + 1) = gi (rd f.log (p + i)) 0 := by
        unfold termL; rw [decide_eq_true (show 1 ≤ p + i + 1 ∧ p + i + 1 ≤ f.log.length by omega)]; rfl
      rw [e2]
      cases decide (gi (rd f.log (p + i)) 0 = gi (rd (gl m 6) i) 0) <;> rfl
    · rw [decide_eq_false h, decide_eq_false (show ¬ ((p + i : Nat) : Int) < f.commit by omega)]; rfl
  · show impl_server_add_l10 (k + 1) _ _ _ _ _ _ _ _ _ _ = _
    rw [impl_server_add_l10, lt_self]; rfl
def noAgg (s : ND) (to : Int) : V := V.agg [(V.int .i64 3), (V.int .i64 s.id), (V.int .i64 to), (V.int .i64 s.term), (V.int .i64 0), (V.int .i64 0), (V.sl 7 t_impl_Item 0 none), (V.int .i64 0), (V.bool false)]
theorem spec_chk_run {s f : ND} {m : V} {p : Nat} {to : Int} (hp : gi m 4 = (p : Int)) (hpb : p ≤ 400) (hi : (gl m 6).length ≤ 4) (hL : f.log.length ≤ 1000) (hc : f.commit ≤ (f.log.length : Int)) :
    spec_l4take_l13 ((gl m 6).length + 1) 0 (f.c 3 4 5 6) (n_impl_Msg m) (noAgg s to) f.log f.votes f.next f.mtch [] =
      bif (List.range (gl m 6).length).all (stepC f (gl m 6) p) then some (1, f.c 2 3 4 5, n_impl_Msg m, f.log, f.votes, f.next, f.mtch, []) else some (0, f.c 3 4 5 6, n_impl_Msg m, [ansM 3 s to f.commit false], f.log, f.votes, f.next, f.mtch) := by
  refine all_range (F := fun k i => spec_l4take_l13 k i (f.c 3 4 5 6) (n_impl_Msg m) (noAgg s to) f.log f.votes f.next f.mtch []) (fun k i hi' => ?_) (fun k => ?_)
  · show spec_l4take_l13 (k + 1) (i : Int) _ _ _ _ _ _ _ _ = _
    rw [spec_l4take_l13]
    have e1 : IntKind.i64.wrap ((p : Int) + (i : Int)) = ((p + i : Nat) : Int) := by rw [wr64' (by omega) (by omega)]; omega
    simp only [show gi (n_impl_Msg m) 4 = gi m 4 from rfl, show gl (n_impl_Msg m) 6 = gl m 6 from rfl, hp, e1, ND.c, gi_c0, gi_cs, lt_nat hi', idxOk_nat hi', Int.toNat_natCast, Nat.zero_add, cond_true, wr_succ hi' (show (gl m 6).length ≤ 9223372036854775807 by omega)]
    unfold stepC
    by_cases h : ((p + i : Nat) : Int) < f.commit
    · rw [decide_eq_true h, show idxOk ((p + i : Nat) : Int) f.log.length = true from idxOk_nat (by omega)]
      cases decide (gi (rd f.log (p + i)) 0 = gi (rd (gl m 6) i) 0) <;> rfl
    · rw [decide_eq_false h]; rfl
  · show spec_l4take_l13 (k + 1) _ _ _ _ _ _ _ _ _ = _
    rw [spec_l4take_l13]
    simp only [show gl (n_impl_Msg m) 6 = gl m 6 from rfl, lt_self, cond_false]
    rfl
theorem impl_take_run {f : ND} {m : V} {out : List V} {p : Nat} (hp : gi m 4 = (p : Int)) (hpl : p ≤ f.log.length) (hi : (gl m 6).length ≤ 4) (hL : f.log.length ≤ 1000) (hz : zS z_Item (gl m 6) ≤ 4000000) :
    impl_server_add_l18 ((gl m 6).length + 1) (p : Int) (gl m 6) (((gl m 6).length : Nat) : Int) 0 (f.b 2 3 4 5 6) (n_impl_Msg m) f.log f.votes f.next f.mtch out =
      some (((p + (gl m 6).length : Nat) : Int), f.b 2 3 4 5 6, n_impl_Msg m, takeS (gl m 6) p f.log (gl m 6).length, f.votes, f.next, f.mtch, out) := by
  obtain ⟨-, hzi⟩ := z_item_le hz
  refine loop_run0 (F := fun k (r : Int × List V) i => impl_server_add_l18 k r.1 (gl m 6) (((gl m 6).length : Nat) : Int) i (f.b 2 3 4 5 6) (n_impl_Msg m) r.2 f.votes f.next f.mtch out) (n := (gl m 6).length) (fun i r => r = (((p + i : Nat) : Int), takeS (gl m 6) p f.log i)) (fun o => o = some (((p + (gl m 6).length : Nat) : Int), f.b 2 3 4 5 6, n_impl_Msg m, takeS (gl m 6) p f.log (gl m 6).length, f.votes, f.next, f.mtch, out)) ?_ ?_ (s := ((p : Int), f.log)) rfl
  · intro k i r hi' hI
    subst hI
    obtain ⟨h1, h2⟩ := takeS_len (items := gl m 6) hpl i
    refine .inl ⟨(((p + (i + 1) : Nat) : Int), takeS (gl m 6) p f.log (i + 1)), ?_, rfl⟩
    show impl_server_add_l18 (k + 1) _ _ _ (i : Int) _ _ _ _ _ _ _ = impl_server_add_l18 k _ _ _ _ _ _ _ _ _ _ _
    rw [impl_server_add_l18]
    have e1 : IntKind.i64.wrap (((p + i : Nat) : Int) + 1) = ((p + i + 1 : Nat) : Int) := by rw [wr64' (by omega) (by omega)]; omega
    have e2 : IntKind.i64.wrap (((p + i + 1 : Nat) : Int) - 1) = ((p + i : Nat) : Int) := by rw [wr64' (by omega) (by omega)]; omega
    have ho : impl_Cmd_own (V.agg [(V.int .i64 (gi (rd (gl m 6) i) 1)), (V.int .i64 (gi (rd (gl m 6) i) 2)), (V.int .i64 (gi (rd (gl m 6) i) 3)), (V.inl t_byte (gl (rd (gl m 6) i) 4)), (V.inl t_byte (gl (rd (gl m 6) i) 5)), (V.int .i64 (gi (rd (gl m 6) i) 6))]) = some (V.agg [(V.int .i64 (gi (rd (gl m 6) i) 1)), (V.int .i64 (gi (rd (gl m 6) i) 2)), (V.int .i64 (gi (rd (gl m 6) i) 3)), (V.inl t_byte (gl (rd (gl m 6) i) 4)), (V.inl t_byte (gl (rd (gl m 6) i) 5)), (V.int .i64 (gi (rd (gl m 6) i) 6))]) :=
      impl_cmdOwn_eq (c := V.agg [(V.int .i64 (gi (rd (gl m 6) i) 1)), (V.int .i64 (gi (rd (gl m 6) i) 2)), (V.int .i64 (gi (rd (gl m 6) i) 3)), (V.inl t_byte (gl (rd (gl m 6) i) 4)), (V.inl t_byte (gl (rd (gl m 6) i) 5)), (V.int .i64 (gi (rd (gl m 6) i) 6))]) (hzi i hi').1 (hzi i hi').2
    simp only [e1, e2, ND.b, gi_c0, gi_cs, gl_c0, gl_cs, lt_nat hi', idxOk_nat hi', Int.toNat_natCast, cond_true, wr_succ hi' (show (gl m 6).length ≤ 9223372036854775807 by omega), ho, Option.bind_some]
    rw [takeS]
    generalize hl : takeS (gl m 6) p f.log i = l at *
    have et := impl_termAt_eq (n := ({ f with log := l } : ND).v) (p := p + i + 1) (show l.length ≤ _ by omega) (by omega)
    have et' : impl_Node_termAt (V.agg [(V.int .i64 f.id), (V.int .i64 f.term), (V.int .i64 f.vote), (V.inl t_impl_Item l), (V.int .i64 f.commit), (V.int .i64 f.role), (V.int .i64 f.lead), (V.int .i64 f.wait), (V.inl t_bool f.votes), (V.inl t_int' f.next), (V.inl t_int' f.mtch)]) ((p + i + 1 : Nat) : Int) = some (termL l (p + i + 1)) := et
    by_cases c : p + i < l.length
    · rw [decide_eq_true (show ((p + i + 1 : Nat) : Int) ≤ ((l.length : Nat) : Int) by omega), decide_eq_false (show ¬ ((l.length : Nat) : Int) < ((p + i + 1 : Nat) : Int) by omega), decide_eq_true c, et']
      have e3 : termL l (p + i + 1) = gi (rd l (p + i)) 0 := by
        unfold termL; rw [decide_eq_true (show 1 ≤ p + i + 1 ∧ p + i + 1 ≤ l.length by omega)]; rfl
      simp only [Option.bind_some, e3, cond_true]
      by_cases e : gi (rd l (p + i)) 0 = gi (rd (gl m 6) i) 0
      · rw [decide_eq_true e]; rfl
      · rw [decide_eq_false e]
        have hlt : (l.take (p + i)).length = p + i := by rw [List.length_take]; omega
        rw [show (decide ((0 : Int) ≤ ((p + i : Nat) : Int)) && decide (((p + i : Nat) : Int) ≤ ((l.length : Nat) : Int))) = true from by rw [decide_eq_true (by omega), decide_eq_true (by omega)]; rfl, decide_eq_true (show ((p + i : Nat) : Int) < ((p + i + 1 : Nat) : Int) by omega), roomyB (n := (l.take (p + i)).length + 1) (by omega) (by omega)]
        rfl
    · rw [decide_eq_false (show ¬ ((p + i + 1 : Nat) : Int) ≤ ((l.length : Nat) : Int) by omega), decide_eq_true (show ((l.length : Nat) : Int) < ((p + i + 1 : Nat) : Int) by omega), decide_eq_false c, roomyB (n := l.length + 1) (by omega) (by omega)]
      rfl
  · intro k r hI
    subst hI
    show impl_server_add_l18 (k + 1) _ _ _ _ _ _ _ _ _ _ _ = _
    rw [impl_server_add_l18, lt_self]; rfl
theorem spec_take_run {f : ND} {m : V} {p : Nat} (hp : gi m 4 = (p : Int)) (hpl : p ≤ f.log.length) (hi : (gl m 6).length ≤ 4) (hL : f.log.length ≤ 1000) :
    spec_l4take_l20 ((gl m 6).length + 1) 0 (f.c 2 3 4 5) (n_impl_Msg m) f.log f.votes f.next f.mtch = some (f.c 2 3 4 5, n_impl_Msg m, takeS (gl m 6) p f.log (gl m 6).length, f.votes, f.next, f.mtch) := by
  refine loop_run0 (F := fun k (r : List V) i => spec_l4take_l20 k i (f.c 2 3 4 5) (n_impl_Msg m) r f.votes f.next f.mtch) (n := (gl m 6).length) (fun i r => r = takeS (gl m 6) p f.log i) (fun o => o = some (f.c 2 3 4 5, n_impl_Msg m, takeS (gl m 6) p f.log (gl m 6).length, f.votes, f.next, f.mtch)) ?_ ?_ (s := f.log) rfl
  · intro k i r hi' hI
    subst hI
    obtain ⟨h1, h2⟩ := takeS_len (items := gl m 6) hpl i
    refine .inl ⟨takeS (gl m 6) p f.log (i + 1), ?_, rfl⟩
    show spec_l4take_l20 (k + 1) (i : Int) _ _ _ _ _ _ = _
    rw [spec_l4take_l20]
    have e1 : IntKind.i64.wrap ((p : Int) + (i : Int)) = ((p + i : Nat) : Int) := by rw [wr64' (by omega) (by omega)]; omega
    simp only [show gi (n_impl_Msg m) 4 = gi m 4 from rfl, show gl (n_impl_Msg m) 6 = gl m 6 from rfl, hp, e1, ND.c, gi_c0, gi_cs, lt_nat hi', idxOk_nat hi', Int.toNat_natCast, Nat.zero_add, cond_true, wr_succ hi' (show (gl m 6).length ≤ 9223372036854775807 by omega)]
    rw [takeS]
    generalize hl : takeS (gl m 6) p f.log i = l at *
    by_cases c : p + i < l.length
    · rw [decide_eq_true (show ((p + i : Nat) : Int) < ((l.length : Nat) : Int) by omega), show idxOk ((p + i : Nat) : Int) l.length = true from idxOk_nat c, decide_eq_false (show ¬ ((l.length : Nat) : Int) ≤ ((p + i : Nat) : Int) by omega), decide_eq_true c]
      simp only [cond_true]
      by_cases e : gi (rd l (p + i)) 0 = gi (rd (gl m 6) i) 0
      · rw [decide_eq_true e]; rfl
      · rw [decide_eq_false e]
        have hlt : (l.take (p + i)).length = p + i := by rw [List.length_take]; omega
        rw [show (decide ((0 : Int) ≤ ((p + i : Nat) : Int)) && decide (((p + i : Nat) : Int) ≤ ((l.length : Nat) : Int))) = true from by rw [decide_eq_true (by omega), decide_eq_true (by omega)]; rfl, roomyB (n := (l.take (p + i)).length) (by omega) (by omega), decide_eq_true (show (((l.take (p + i)).length : Nat) : Int) ≤ ((p + i : Nat) : Int) by omega), roomyB (n := (l.take (p + i)).length + 1) (by omega) (by omega)]
        rfl
    · rw [decide_eq_false (show ¬ ((p + i : Nat) : Int) < ((l.length : Nat) : Int) by omega), decide_eq_true (show ((l.length : Nat) : Int) ≤ ((p + i : Nat) : Int) by omega), decide_eq_false c, roomyB (n := l.length) (by omega) (by omega), roomyB (n := l.length + 1) (by omega) (by omega)]
      rfl
  · intro k r hI
    subst hI
    show spec_l4take_l20 (k + 1) _ _ _ _ _ _ _ = _
    rw [spec_l4take_l20]
    simp only [show gl (n_impl_Msg m) 6 = gl m 6 from rfl, lt_self, cond_false]
    rfl
end Go.Eng.R
open Go Go.Eng
namespace Go.Eng.R
def ND.hd (s : ND) (m : V) : ND := { s.fol (gi m 3) with wait := 0, lead := gi m 1 }
def ND.tk (f : ND) (m : V) (p : Nat) : ND := { f with log := takeS (gl m 6) p f.log (gl m 6).length, commit := mxI f.commit (mnI (gi m 7) ((p + (gl m 6).length : Nat) : Int)) }
def takeR (s : ND) (m : V) (p : Nat) : Int × Bool × ND :=
  bif decide (gi m 3 < s.term) then (0, false, s)
  else bif decide (s.role = 2) then (0, false, s)
  else bif decide (((s.log.length : Nat) : Int) < gi m 4) then (((s.log.length : Nat) : Int), false, s.hd m)
  else bif !decide (termL s.log p = gi m 5) then (gi m 4 - 1, false, s.hd m)
  else bif (List.range (gl m 6).length).all (stepC (s.hd m) (gl m 6) p) then (((p + (gl m 6).length : Nat) : Int), true, (s.hd m).tk m p)
  else (s.commit, false, s.hd m)
def tellR (s : ND) (m : V) (p : Nat) : ND × List V := ((takeR s m p).2.2, [ansM 3 s (gi m 1) (takeR s m p).1 (takeR s m p).2.1])
theorem fol_log (s : ND) (t : Int) : (s.fol t).log = s.log := by rw [fol_eq]
theorem fol_commit (s : ND) (t : Int) : (s.fol t).commit = s.commit := by rw [fol_eq]
theorem fol_id (s : ND) (t : Int) : (s.fol t).id = s.id := by rw [fol_eq]
theorem fol_term {s : ND} {t : Int} (h : ¬ s.term < t) : (s.fol t).term = s.term := by rw [fol_eq, decide_eq_false h]; rfl
theorem impl_add_eq {s : ND} (h : HOk s) {m : V} (hm : W_Msg m) (hz : z_Msg m ≤ 1048576) (hp : MsgP m) {p : Nat} (hpp : gi m 4 = (p : Int)) : impl_server_add (s.sv []) m = some ((takeR s m p).1, (takeR s m p).2.1, (takeR s m p).2.2.sv []) := by
  have hc := h.c; have hl := hc.log; have h4 := hp.len4; have hpM := hp.prevM
  have hzm : zS z_Item (gl m 6) ≤ 1048576 := hz
  have hf := impl_follow_eq s [] (gi m 3)
  have e3 : gl ((s.fol (gi m 3)).sv []) 3 = s.log := fol_log s _
  have et : ∀ q : Nat, q ≤ 1000 → impl_Node_termAt (s.hd m).v (q : Int) = some (termL s.log q) := fun q hq => by
    have := impl_termAt_eq (n := (s.hd m).v) (p := q) (show (s.fol (gi m 3)).log.length ≤ _ by rw [fol_log]; omega) (by omega)
    have e : termN (s.hd m).v q = termL s.log q := by show termL (s.fol (gi m 3)).log q = _; rw [fol_log]
    rw [e] at this; exact this
  have et' : impl_Node_termAt (s.hd m).v (gi m 4) = some (termL s.log p) := by rw [hpp]; exact et p (by omega)
  unfold impl_server_add takeR
  simp only [show n_impl_server (s.sv []) = s.sv [] from rfl, hf, e3, show gi (s.sv []) 1 = s.term from rfl, show gi (s.sv []) 5 = s.role from rfl]
  cases decide (gi m 3 < s.term) with
  | true => rfl
  | false =>
    cases decide (s.role = 2) with
    | true => rfl
    | false =>
      simp only [cond_false]
      by_cases hlen : ((s.log.length : Nat) : Int) < gi m 4
      · rw [decide_eq_true hlen]
        rw [← fol_log s (gi m 3)]; rfl
      rw [decide_eq_false hlen]
      simp only [cond_false]
      refine Eq.trans (congrArg (fun o => Option.bind o _) (show _ = some (termL s.log p) from ?_)) ?_
      · rw [← et', ← fol_log s (gi m 3)]; rfl
      rw [Option.bind_some]
      cases decide (termL s.log p = gi m 5) with
      | false =>
        simp only [Bool.not_false, cond_true]
        rw [wr64' (n := gi m 4 - 1) (by omega) (by omega), ← fol_log s (gi m 3)]; rfl
      | true =>
        simp only [Bool.not_true, cond_false]
        have hcm : (s.hd m).commit = s.commit := fol_commit s _
        have hlg : (s.hd m).log = s.log := fol_log s _
        have e1 := impl_chk_run (f := s.hd m) (m := m) (out := []) hpp (by omega) (by omega) (by rw [hlg]; omega) (by rw [hcm, hlg]; exact hc.com1)
        have e2 := impl_take_run (f := s.hd m) (m := m) (out := []) hpp (by rw [hlg]; omega) (by omega) (by rw [hlg]; omega) (by omega)
        refine Eq.trans (congrArg (fun o => Option.bind o _) (show _ = (bif (List.range (gl m 6).length).all (stepC (s.hd m) (gl m 6) p) then some (1, 0, false, (s.hd m).b 2 3 4 5 6, n_impl_Msg m, (s.hd m).log, (s.hd m).votes, (s.hd m).next, (s.hd m).mtch, []) else some (0, (s.hd m).commit, false, (s.hd m).b 2 3 4 5 6, n_impl_Msg m, (s.hd m).log, (s.hd m).votes, (s.hd m).next, (s.hd m).mtch, [])) from ?_)) ?_
        · rw [fuel_eq]
          refine Eq.trans ?_ e1
          rw [hlg]; rfl
        cases (List.range (gl m 6).length).all (stepC (s.hd m) (gl m 6) p) with
        | false => rw [← hcm]; rfl
        | true =>
          show Option.bind (impl_server_add_l18 (((((gl m 6).length : Nat) : Int) - 0).toNat + 1) (gi m 4) (gl m 6) (((gl m 6).length : Nat) : Int) 0 ((s.hd m).b 2 3 4 5 6) (n_impl_Msg m) (s.hd m).log (s.hd m).votes (s.hd m).next (s.hd m).mtch []) _ = _
          rw [fuel_eq, hpp, e2]
          rfl
theorem spec_take_eq {s : ND} (h : HOk s) {m : V} (hm : W_Msg m) (hp : MsgP m) (ht : ¬ s.term < gi m 3) {p : Nat} (hpp : gi m 4 = (p : Int)) : spec_l4take s.v m = some ((tellR s m p).2, (tellR s m p).1.v) := by
  have hc := h.c; have hl := hc.log; have h4 := hp.len4; have hpM := hp.prevM; have hf5 := hc.few; have hv5 := hc.votes; have hn5 := hc.next; have hlP := hp.lenP
  have c0 := hp.com0; have cM := hp.comM; have hcc1 := hc.com1; have hcc0 := hc.com0
  have hf := spec_follow_eq (s := s) (gi m 3) (by omega) (by omega) (by omega)
  have e3 : gl (s.fol (gi m 3)).v 3 = s.log := fol_log s _
  have et : ∀ q : Nat, q ≤ 1000 → spec_l4termAt (s.hd m).v (q : Int) = some (termL s.log q) := fun q hq => by
    have := spec_termAt_eq (n := (s.hd m).v) (p := q) (show (s.fol (gi m 3)).log.length ≤ _ by rw [fol_log]; omega) (by omega)
    have e : termN (s.hd m).v q = termL s.log q := by show termL (s.fol (gi m 3)).log q = _; rw [fol_log]
    rw [e] at this; exact this
  have et' : spec_l4termAt (s.hd m).v (gi m 4) = some (termL s.log p) := by rw [hpp]; exact et p (by omega)
  unfold spec_l4take tellR takeR
  simp only [show n_impl_Node s.v = s.v from rfl, hf, Option.bind_some, e3, show gi s.v 1 = s.term from rfl, show gi s.v 5 = s.role from rfl, show gi s.v 0 = s.id from rfl]
  by_cases htl : gi m 3 < s.term
  · rw [decide_eq_true htl]; rfl
  rw [decide_eq_false htl]
  cases decide (s.role = 2) with
  | true => rfl
  | false =>
    simp only [cond_false]
    by_cases hlen : ((s.log.length : Nat) : Int) < gi m 4
    · rw [decide_eq_true hlen, decide_eq_false (show ¬ gi m 4 ≤ ((s.log.length : Nat) : Int) by omega)]
      rw [← fol_log s (gi m 3)]; rfl
    rw [decide_eq_false hlen, decide_eq_true (show gi m 4 ≤ ((s.log.length : Nat) : Int) by omega)]
    simp only [cond_false, cond_true]
    refine Eq.trans (congrArg (fun o => Option.bind o _) (show _ = some (termL s.log p) from ?_)) ?_
    · rw [← et', ← fol_log s (gi m 3)]; rfl
    rw [Option.bind_some]
    cases decide (termL s.log p = gi m 5) with
    | false =>
      simp only [Bool.not_false, cond_true]
      rw [wr64' (n := gi m 4 - 1) (by omega) (by omega), ← fol_log s (gi m 3)]; rfl
    | true =>
      simp only [Bool.not_true, cond_false]
      have hcm : (s.hd m).commit = s.commit := fol_commit s _
      have hid : (s.hd m).id = s.id := fol_id s _
      have htm : (s.hd m).term = s.term := fol_term ht
      have hlg : (s.hd m).log = s.log := fol_log s _
      have e1 := spec_chk_run (s := s) (f := s.hd m) (m := m) (to := gi m 1) hpp (by omega) (by omega) (by rw [hlg]; omega) (by rw [hcm, hlg]; exact hc.com1)
      have e2 := spec_take_run (f := s.hd m) (m := m) hpp (by rw [hlg]; omega) (by omega) (by rw [hlg]; omega)
      refine Eq.trans (congrArg (fun o => Option.bind o _) (show _ = (bif (List.range (gl m 6).length).all (stepC (s.hd m) (gl m 6) p) then some (1, (s.hd m).c 2 3 4 5, n_impl_Msg m, (s.hd m).log, (s.hd m).votes, (s.hd m).next, (s.hd m).mtch, []) else some (0, (s.hd m).c 3 4 5 6, n_impl_Msg m, [ansM 3 s (gi m 1) (s.hd m).commit false], (s.hd m).log, (s.hd m).votes, (s.hd m).next, (s.hd m).mtch)) from ?_)) ?_
      · rw [show gl (n_impl_Msg m) 6 = gl m 6 from rfl, fuel_eq]
        refine Eq.trans ?_ e1
        rw [hlg]; rfl
      cases (List.range (gl m 6).length).all (stepC (s.hd m) (gl m 6) p) with
      | false => rw [← hcm]; rfl
      | true =>
        show Option.bind (spec_l4take_l20 (((((gl m 6).length : Nat) : Int) - 0).toNat + 1) 0 ((s.hd m).c 2 3 4 5) (n_impl_Msg m) (s.hd m).log (s.hd m).votes (s.hd m).next (s.hd m).mtch) _ = _
        rw [fuel_eq, e2]
        simp only [Option.bind_some, show gi (n_impl_Msg m) 7 = gi m 7 from rfl, show gi (n_impl_Msg m) 4 = gi m 4 from rfl, show gl (n_impl_Msg m) 6 = gl m 6 from rfl, hpp, show gi ((s.hd m).c 2 3 4 5) 4 = (s.hd m).commit from rfl, show gi ((s.hd m).c 2 3 4 5) 0 = (s.hd m).id from rfl, show gi ((s.hd m).c 2 3 4 5) 1 = (s.hd m).term from rfl, show gi (n_impl_Msg m) 1 = gi m 1 from rfl]
        have ew : IntKind.i64.wrap ((p : Int) + (((gl m 6).length : Nat) : Int)) = ((p + (gl m 6).length : Nat) : Int) := by rw [wr64' (by omega) (by omega)]; omega
        rw [ew, hid, htm]
        have fin : ∀ x : Int, x = mxI (s.hd m).commit (mnI (gi m 7) ((p + (gl m 6).length : Nat) : Int)) → ({ s.hd m with log := takeS (gl m 6) p (s.hd m).log (gl m 6).length, commit := x } : ND).v = ((s.hd m).tk m p).v := by
          rintro x rfl; rfl
        by_cases a : gi m 7 < ((p + (gl m 6).length : Nat) : Int)
        · rw [decide_eq_true a]
          by_cases b : (s.hd m).commit < gi m 7
          · rw [decide_eq_true b]
            exact congrArg (fun x => some ([ansM 3 s (gi m 1) ((p + (gl m 6).length : Nat) : Int) true], x)) (Eq.trans (show _ = ({ s.hd m with log := takeS (gl m 6) p (s.hd m).log (gl m 6).length, commit := gi m 7 } : ND).v by unfold ND.v; rw [hid, htm]; rfl) (fin _ (by unfold mxI mnI; split <;> (try split) <;> omega)))
          · rw [decide_eq_false b]
            exact congrArg (fun x => some ([ansM 3 s (gi m 1) ((p + (gl m 6).length : Nat) : Int) true], x)) (Eq.trans (show _ = ({ s.hd m with log := takeS (gl m 6) p (s.hd m).log (gl m 6).length, commit := (s.hd m).commit } : ND).v by unfold ND.v; rw [hid, htm]; rfl) (fin _ (by unfold mxI mnI; split <;> (try split) <;> omega)))
        · rw [decide_eq_false a]
          by_cases b : (s.hd m).commit < ((p + (gl m 6).length : Nat) : Int)
          · rw [decide_eq_true b]
            exact congrArg (fun x => some ([ansM 3 s (gi m 1) ((p + (gl m 6).length : Nat) : Int) true], x)) (Eq.trans (show _ = ({ s.hd m with log := takeS (gl m 6) p (s.hd m).log (gl m 6).length, commit := ((p + (gl m 6).length : Nat) : Int) } : ND).v by unfold ND.v; rw [hid, htm]; rfl) (fin _ (by unfold mxI mnI; split <;> (try split) <;> omega)))
          · rw [decide_eq_false b]
            exact congrArg (fun x => some ([ansM 3 s (gi m 1) ((p + (gl m 6).length : Nat) : Int) true], x)) (Eq.trans (show _ = ({ s.hd m with log := takeS (gl m 6) p (s.hd m).log (gl m 6).length, commit := (s.hd m).commit } : ND).v by unfold ND.v; rw [hid, htm]; rfl) (fin _ (by unfold mxI mnI; split <;> (try split) <;> omega)))
end Go.Eng.R
open Go Go.Eng
namespace Go.Eng.R
theorem takeR_term {s : ND} {m : V} {p : Nat} (ht : ¬ s.term < gi m 3) : (takeR s m p).2.2.term = s.term := by
  have e : (s.hd m).term = s.term := fol_term ht
  unfold takeR
  cases decide (gi m 3 < s.term) with
  | true => rfl
  | false =>
    cases decide (s.role = 2) with
    | true => rfl
    | false =>
      cases decide (((s.log.length : Nat) : Int) < gi m 4) with
      | true => exact e
      | false =>
        cases decide (termL s.log p = gi m 5) with
        | false => exact e
        | true => cases (List.range (gl m 6).length).all (stepC (s.hd m) (gl m 6) p) <;> exact e
theorem impl_hear_tell {s : ND} {m : V} (h : HOk s) (hm : W_Msg m) (hz : z_Msg m ≤ 1048576) (hp : MsgP m) (hM : n_impl_Msg m = m) (hk : gi m 0 = 2) (ht : ¬ s.term < gi m 3) : impl_server_hear (s.sv []) m = some ((tellR s m (gi m 4).toNat).1.sv (tellR s m (gi m 4).toNat).2) := by
  have e := impl_add_eq h hm hz hp (p := (gi m 4).toNat) (by have := hp.prev0; omega)
  have et := takeR_term (p := (gi m 4).toNat) ht
  unfold impl_server_hear
  rw [show gi (s.sv []) 1 = s.term from rfl, decide_eq_false ht, hk]
  simp only [cond_false, show ¬ ((2 : Int) = 0) by decide, show ¬ ((2 : Int) = 1) by decide, decide_false, decide_true, cond_true, hM, show n_impl_server (s.sv []) = s.sv [] from rfl, e, Option.bind_some, show ∀ t : ND, gl (t.sv []) 11 = [] from fun _ => rfl, room1]
  unfold tellR ansM
  rw [← et]
  rfl
theorem spec_hear_tell {s : ND} {m : V} (h : HOk s) (hm : W_Msg m) (hp : MsgP m) (hM : n_impl_Msg m = m) (hk : gi m 0 = 2) (ht : ¬ s.term < gi m 3) : spec_l4hear s.v m = some ((tellR s m (gi m 4).toNat).2, (tellR s m (gi m 4).toNat).1.v) := by
  have e := spec_take_eq h hm hp ht (p := (gi m 4).toNat) (by have := hp.prev0; omega)
  unfold spec_l4hear
  rw [show gi s.v 1 = s.term from rfl, decide_eq_false ht, hk]
  simp only [cond_false, show ¬ ((2 : Int) = 0) by decide, show ¬ ((2 : Int) = 1) by decide, decide_false, decide_true, cond_true, hM, show n_impl_Node s.v = s.v from rfl, e, Option.bind_some]
  rfl
theorem HOk.hdOk {s : ND} (h : HOk s) {m : V} (hm : W_Msg m) (hp : MsgP m) : StepOk' (s.hd m) [] := by
  have h' := h.fol (t := gi m 3) (by have := hp.term1; omega) hp.termM
  have hc := h'.c; have hf := hc.few; have hn := hc.next; have hv := hc.votes; have hz := h'.sz; have hW := hc.W
  refine StepOk'.none ⟨hW.1, hW.2.1, hW.2.2.1, hW.2.2.2.1, hW.2.2.2.2.1, hW.2.2.2.2.2.1, hm.2.1, I64_0, hW.2.2.2.2.2.2.2.2.1, hW.2.2.2.2.2.2.2.2.2.1, hW.2.2.2.2.2.2.2.2.2.2⟩ hc.nrm ?_ ?_ ?_ ?_
  · show zS z_Item (s.fol (gi m 3)).log ≤ _; omega
  · show (s.fol (gi m 3)).votes.length ≤ 5; omega
  · show (s.fol (gi m 3)).next.length ≤ 5; omega
  · show (s.fol (gi m 3)).mtch.length ≤ 5; omega
theorem HOk.tkOk {s : ND} (h : HOk s) {m : V} (hm : W_Msg m) (hz : z_Msg m ≤ 1048576) (hp : MsgP m) {p : Nat} (hpp : gi m 4 = (p : Int)) (hpl : p ≤ s.log.length) : StepOk' ((s.hd m).tk m p) [] := by
  have hh := h.hdOk hm hp; have hW := hh.W; have hl := h.c.log; have h4 := hp.len4; have hpM := hp.prevM; have hlP := hp.lenP; have hs := h.sz
  have c0 := hp.com0; have cM := hp.comM; have hc0 := h.c.com0; have hc1 := h.c.com1
  have hlg : (s.hd m).log = s.log := fol_log s _
  have hcm : (s.hd m).commit = s.commit := fol_commit s _
  have hzm : zS z_Item (gl m 6) ≤ 1048576 := hz
  have z := takeS_z (items := gl m 6) (p := p) (log := s.log) (gl m 6).length (Nat.le_refl _)
  rw [List.take_length] at z
  refine StepOk'.none ⟨hW.1, hW.2.1, hW.2.2.1, ?_, ?_, hW.2.2.2.2.2.1, hW.2.2.2.2.2.2.1, hW.2.2.2.2.2.2.2.1, hW.2.2.2.2.2.2.2.2.1, hW.2.2.2.2.2.2.2.2.2.1, hW.2.2.2.2.2.2.2.2.2.2⟩ ?_ ?_ hh.votes hh.next hh.mtch
  · show LW W_Item (takeS (gl m 6) p (s.hd m).log (gl m 6).length)
    rw [hlg]
    exact takeS_W (log := s.log) hm.2.2.2.2.2.2.1 h.c.W.2.2.2.1 hpl (by omega) (by omega) _ (Nat.le_refl _)
  · show I64 (mxI (s.hd m).commit (mnI (gi m 7) ((p + (gl m 6).length : Nat) : Int)))
    rw [hcm]
    unfold mxI mnI; split <;> (try split) <;> exact ⟨by omega, by omega⟩
  · show Nrm (takeS (gl m 6) p (s.hd m).log (gl m 6).length)
    rw [hlg]; exact takeS_nrm h.c.nrm _
  · show zS z_Item (takeS (gl m 6) p (s.hd m).log (gl m 6).length) ≤ _
    rw [hlg]; omega
theorem HOk.tell {s : ND} (h : HOk s) {m : V} (hm : W_Msg m) (hz : z_Msg m ≤ 1048576) (hp : MsgP m) : StepOk' (tellR s m (gi m 4).toNat).1 (tellR s m (gi m 4).toNat).2 := by
  have hl := h.c.log; have p0 := hp.prev0; have pM := hp.prevM; have h4 := hp.len4; have hc0 := h.c.com0; have hc1 := h.c.com1
  have key : StepOk' (takeR s m (gi m 4).toNat).2.2 [] ∧ I64 (takeR s m (gi m 4).toNat).1 := by
    unfold takeR
    cases decide (gi m 3 < s.term) with
    | true => exact ⟨h.stay, I64_0⟩
    | false =>
      cases decide (s.role = 2) with
      | true => exact ⟨h.stay, I64_0⟩
      | false =>
        simp only [cond_false]
        by_cases hlen : ((s.log.length : Nat) : Int) < gi m 4
        · rw [decide_eq_true hlen]; exact ⟨h.hdOk hm hp, by show (-9223372036854775808 : Int) ≤ ((s.log.length : Nat) : Int); omega, by show ((s.log.length : Nat) : Int) ≤ 9223372036854775807; omega⟩
        rw [decide_eq_false hlen]
        cases decide (termL s.log (gi m 4).toNat = gi m 5) with
        | false => exact ⟨h.hdOk hm hp, by show (-9223372036854775808 : Int) ≤ gi m 4 - 1; omega, by show gi m 4 - 1 ≤ 9223372036854775807; omega⟩
        | true =>
          cases (List.range (gl m 6).length).all (stepC (s.hd m) (gl m 6) (gi m 4).toNat) with
          | true => exact ⟨h.tkOk hm hz hp (by omega) (by omega), by show (-9223372036854775808 : Int) ≤ (((gi m 4).toNat + (gl m 6).length : Nat) : Int); omega, by show (((gi m 4).toNat + (gl m 6).length : Nat) : Int) ≤ 9223372036854775807; omega⟩
          | false => exact ⟨h.hdOk hm hp, by show (-9223372036854775808 : Int) ≤ s.commit; omega, by show s.commit ≤ 9223372036854775807; omega⟩
  exact StepOk'.ans key.1 h.c.W ⟨by decide, by decide⟩ hm.2.1 key.2 _
theorem hear_at {s : ND} (h : HOk s) {m : V} (hm : W_Msg m) (hz : z_Msg m ≤ 1048576) (hp : MsgP m) (hM : n_impl_Msg m = m) (hto : gi m 2 = s.id) (hfr : gi m 1 < (s.votes.length : Int)) (ht : ¬ s.term < gi m 3) :
    ∃ s' l, spec_l4hear s.v m = some (l, s'.v) ∧ impl_server_hear (s.sv []) m = some (s'.sv l) ∧ StepOk' s' l := by
  have f0 := hp.from0; have hne := hp.ne; have k0 := hp.kind0; have k3 := hp.kind3
  by_cases h0 : gi m 0 = 0
  · have e := spec_hear_ask (m := m) h h0 ht
    rw [hM] at e
    exact ⟨_, _, e, impl_hear_ask h h0 ht, h.ask hm⟩
  by_cases h1 : gi m 0 = 1
  · exact ⟨_, _, spec_hear_vote h h1 ht f0 hfr, impl_hear_vote h h1 ht f0 hfr, h.vote m⟩
  by_cases h2 : gi m 0 = 2
  · exact ⟨_, _, spec_hear_tell h hm hp hM h2 ht, impl_hear_tell h hm hz hp hM h2 ht, h.tell hm hz hp⟩
  have hj : (gi m 1).toNat < s.votes.length := by omega
  have hjn : (((gi m 1).toNat : Nat) : Int) ≠ s.id := by omega
  have e1 := spec_ack_eq h hp hj hjn (by omega)
  have e2 := impl_ack_eq h hp hj hjn (by omega)
  refine ⟨_, _, ?_, ?_, h.ackOk hp hj hjn⟩
  · unfold spec_l4hear
    rw [show gi s.v 1 = s.term from rfl, decide_eq_false ht]
    simp only [cond_false, h0, h1, h2, decide_false, hM, show n_impl_Node s.v = s.v from rfl, e1, Option.bind_some]
    rfl
  · unfold impl_server_hear
    rw [show gi (s.sv []) 1 = s.term from rfl, decide_eq_false ht]
    simp only [cond_false, h0, h1, h2, decide_false, hM, show n_impl_server (s.sv []) = s.sv [] from rfl, e2, Option.bind_some]
    rfl
theorem hear_step {s : ND} (h : HOk s) {m : V} (hm : W_Msg m) (hz : z_Msg m ≤ 1048576) (hp : MsgP m) (hM : n_impl_Msg m = m) (hto : gi m 2 = s.id) (hfr : gi m 1 < (s.votes.length : Int)) :
    ∃ s' l, spec_l4hear s.v m = some (l, s'.v) ∧ impl_server_hear (s.sv []) m = some (s'.sv l) ∧ StepOk' s' l := by
  have hc := h.c; have hf := hc.few; have hn := hc.next; have hv := hc.votes
  by_cases ht : s.term < gi m 3
  · rw [spec_hear_fol (by omega) (by omega) (by omega) ht, impl_hear_fol ht]
    refine hear_at (h.fol (t := gi m 3) (by have := hp.term1; omega) hp.termM) hm hz hp hM (by rw [fol_id]; exact hto) ?_ ?_
    · rw [fol_eq]; dsimp only; rw [List.length_replicate]; exact hfr
    · rw [fol_eq, decide_eq_true ht]; show ¬ gi m 3 < gi m 3; omega
  · exact hear_at h hm hz hp hM hto hfr ht
theorem hear_eq {n m : V} (hn : W_Node n) (hm : W_Msg m) (hz : z_Node n + z_Msg m ≤ 1048576) {k : Int} (hk : I64 k) :
    ∃ g l, spec_Hear (n_impl_Node n) k (n_impl_Msg m) = some (g, l) ∧ impl_Hear (n_impl_Node n) k (n_impl_Msg m) = some (g, l) ∧ W_Node g ∧ LW W_Msg l ∧ ct_Node g ≤ 100000000 ∧ sumL c_Msg l ≤ 600000000 := by
  have hzi : zS z_Item (gl n 3) ≤ 1048576 := by simp only [z_Node] at hz; omega
  unfold spec_Hear impl_Hear
  have hms := spec_MsgOk_eq hm
  have hmi := impl_MsgOk_eq hm
  simp only [show n_impl_Node (n_impl_Node n) = n_impl_Node n from rfl, show n_impl_Msg (n_impl_Msg m) = n_impl_Msg m from rfl, spec_NodeOk_eq hn, impl_NodeOk_eq hn k hk, hms, hmi, Option.bind_some, show gi (n_impl_Msg m) 2 = gi m 2 from rfl, show gi (n_impl_Msg m) 1 = gi m 1 from rfl, show gi (n_impl_Node n) 0 = gi n 0 from rfl]
  have zero : ∃ g l, some (zeroN, ([] : List V)) = some (g, l) ∧ some (zeroN, ([] : List V)) = some (g, l) ∧ W_Node g ∧ LW W_Msg l ∧ ct_Node g ≤ 100000000 ∧ sumL c_Msg l ≤ 600000000 := ⟨zeroN, [], rfl, rfl, zeroN_W, LW.nil, by decide, by decide⟩
  cases hb : nodeB n k with
  | false => exact zero
  | true =>
  cases hcb : msgB m with
  | false => exact zero
  | true =>
    by_cases hto : gi m 2 = gi n 0
    case neg => rw [decide_eq_false hto]; exact zero
    by_cases hfr : k ≤ gi m 1
    · rw [decide_eq_true hto, decide_eq_true hfr]; exact zero
    rw [decide_eq_true hto, decide_eq_false hfr]
    have hp : NodeP n k := by simpa [nodeB] using hb
    have hmp : MsgP (n_impl_Msg m) := by
      have q := msgB_p hcb
      exact ⟨q.kind0, q.kind3, q.from0, q.from4, q.to0, q.to4, q.ne, q.term1, q.termM, q.prev0, q.prevM, q.pt0, q.ptT, q.com0, q.comM, q.len4, q.lenP, q.zero, q.items, q.ask, q.vote, q.add, q.ack⟩
    have h8 := hp.lvotes; have h9 := hp.lnext; have h10 := hp.lmatch; have hk5 := hp.k5
    have ei := impl_own_eq hn (by omega) (show (gl n 8).length ≤ 1000 by omega) (show (gl n 9).length ≤ 1000 by omega) (show (gl n 10).length ≤ 1000 by omega)
    have es := spec_own_eq hn (by omega) (show (gl n 8).length ≤ 1000 by omega) (show (gl n 9).length ≤ 1000 by omega) (show (gl n 10).length ≤ 1000 by omega)
    have ho := own_ok hn hzi hp
    obtain ⟨s', l, e1, e2, e3⟩ := hear_step ho.hOk (m := n_impl_Msg m) hm (show z_Msg m ≤ _ by omega) hmp rfl (show gi m 2 = gi n 0 from hto) (show gi m 1 < (((gl n 8).length : Nat) : Int) by omega)
    obtain ⟨o1, o2, o3⟩ := e3.out
    refine ⟨s'.v, l, ?_, ?_, e3.W, e3.msgs, o3, e3.marks⟩
    · simp only [Bool.not_true, cond_false, es, Option.bind_some, show n_impl_Node (ownD n).v = (ownD n).v from rfl, e1, o1, o2]
      rfl
    · simp only [Bool.not_true, cond_false, ei, Option.bind_some]
      refine Eq.trans (congrArg (fun o => Option.bind o _) (show _ = some (s'.sv l) from e2)) ?_
      rfl
end Go.Eng.R
open Go Go.Eng
namespace Go.Eng.R
theorem law_Hear {n c : V} (hn : W_Node n) {k : Int} (hk : I64 k) (hc : W_Msg c) : laws_FnExactHear n k c = some true := by
  unfold laws_FnExactHear
  obtain ⟨r, e, hr⟩ := laws_szNode_ok (n_laws_Node n) 1048576 hn (by omega) (by omega)
  simp only [e, Option.bind_some]
  rcases hr with hr | ⟨r0, r1, hz⟩
  · rw [decide_eq_true hr]; rfl
  rw [decide_eq_false (p := r < 0) (by omega), cond_false]
  have hz : r + ((z_Node n : Nat) : Int) = 1048576 := hz
  obtain ⟨q, e', hq⟩ := laws_szMsg_ok (n_laws_Msg c) r hc r0 r1
  rw [e', Option.bind_some]
  rcases hq with hq | ⟨q0, q1, hz'⟩
  · rw [decide_eq_true hq]; rfl
  rw [decide_eq_false (p := q < 0) (by omega)]
  have hz' : q + ((z_Msg c : Nat) : Int) = r := hz'
  have hto : laws_toNode (n_laws_Node n) = some (cnv_Node n) := laws_toNode_ok (n_laws_Node n) hn (by show z_Node n ≤ _; omega)
  have htc : laws_toMsg (n_laws_Msg c) = some (cnv_Msg c) := laws_toMsg_ok (n_laws_Msg c) hc (by show z_Msg c ≤ _; omega)
  have hy : W_Node (cnv_Node n) := cnv_Node_W n hn
  have hyc : W_Msg (cnv_Msg c) := cnv_Msg_W c hc
  have hyz : z_Node (cnv_Node n) + z_Msg (cnv_Msg c) ≤ 1048576 := by rw [cnv_Node_z, cnv_Msg_z]; omega
  obtain ⟨g, l, g1, g2, g3, g4, g5, g6⟩ := hear_eq hy hyc hyz (k := k) hk
  have hct := ct_Node_cz (cnv_Node n)
  have hcc := ct_Msg_cz (cnv_Msg c)
  obtain ⟨b0, b1, b2, b3, f1, -⟩ := laws_markNode_ok (n_impl_Node (cnv_Node n)) 1 hy (by omega) (by show (1 : Int) + ((ct_Node (cnv_Node n) : Nat) : Int) ≤ _; omega)
  simp only [show ct_Node (n_impl_Node (cnv_Node n)) = ct_Node (cnv_Node n) from rfl] at f1
  obtain ⟨c0, f1c, -⟩ := laws_markMsg_ok (n_impl_Msg (cnv_Msg c)) (1 + ((ct_Node (cnv_Node n) : Nat) : Int)) hyc (by omega) (by show (1 : Int) + ((ct_Node (cnv_Node n) : Nat) : Int) + ((ct_Msg (cnv_Msg c) : Nat) : Int) ≤ _; omega)
  simp only [show ct_Msg (n_impl_Msg (cnv_Msg c)) = ct_Msg (cnv_Msg c) from rfl] at f1c
  obtain ⟨d0, d1, d2, d3, f2, q0', s0, q1', s1, q2', s2, q3', s3⟩ := laws_markNode_ok (n_impl_Node g) 1 g3 (by omega) (by show (1 : Int) + ((ct_Node g : Nat) : Int) ≤ _; omega)
  simp only [show ct_Node (n_impl_Node g) = ct_Node g from rfl] at f2
  obtain ⟨m0, f3, qm, sm⟩ := laws_markMsgS_ok l (1 + ((ct_Node g : Nat) : Int)) g4 (by omega) (by omega)
  have s0 : sumL c_Item d0 = sumL c_Item (gl g 3) := s0
  have s1 : sumL Go.Eng.c1 d1 = sumL Go.Eng.c1 (gl g 8) := s1
  have s2 : sumL Go.Eng.c1 d2 = sumL Go.Eng.c1 (gl g 9) := s2
  have s3 : sumL Go.Eng.c1 d3 = sumL Go.Eng.c1 (gl g 10) := s3
  have hc' : ct_Node (V.agg [(V.int .i64 (gi g 0)), (V.int .i64 (gi g 1)), (V.int .i64 (gi g 2)), (V.inl t_impl_Item d0), (V.int .i64 (gi g 4)), (V.int .i64 (gi g 5)), (V.int .i64 (gi g 6)), (V.int .i64 (gi g 7)), (V.inl t_bool d1), (V.inl t_int' d2), (V.inl t_int' d3)]) = ct_Node g := by
    simp only [ct_Node, gl_c0, gl_cs, s0, s1, s2, s3]
  have hh := laws_heldNode_ok (V.agg [(V.int .i64 (gi g 0)), (V.int .i64 (gi g 1)), (V.int .i64 (gi g 2)), (V.inl t_impl_Item d0), (V.int .i64 (gi g 4)), (V.int .i64 (gi g 5)), (V.int .i64 (gi g 6)), (V.int .i64 (gi g 7)), (V.inl t_bool d1), (V.inl t_int' d2), (V.inl t_int' d3)]) 1
    q0' (by simp only [gl_c0, gl_cs, s0]; exact q1') (by simp only [gl_c0, gl_cs, s0, s1]; exact q2') (by simp only [gl_c0, gl_cs, s0, s1, s2]; exact q3') (by omega) (by rw [hc']; omega)
  rw [hc'] at hh
  have hm := laws_heldMsgS_ok m0 (1 + ((ct_Node g : Nat) : Int)) qm (by omega) (by rw [sm]; omega)
  rw [sm] at hm
  have eq1 := laws_eqNode_ok (n_impl_Node g) g3
  have eq2 := laws_eqNode_ok (n_impl_Node (cnv_Node n)) hy
  have eq3 := laws_eqMsgS_ok l g4
  have eq4 := laws_eqMsg_ok (n_impl_Msg (cnv_Msg c)) hyc
  have n1 : ¬ (1 : Int) + ((ct_Node (cnv_Node n) : Nat) : Int) + ((ct_Msg (cnv_Msg c) : Nat) : Int) < 0 := by omega
  have n2 : ¬ (1 : Int) + ((ct_Node g : Nat) : Int) < 0 := by omega
  have n3 : ¬ (1 : Int) + ((ct_Node g : Nat) : Int) + ((sumL c_Msg l : Nat) : Int) < 0 := by omega
  simp only [hto, htc, g1, g2, eq1, eq2, eq3, eq4, f1, f1c, f2, f3, hh, hm, n1, n2, n3, Option.bind_some, cond_false, Bool.not_true, beq_self_eq_true, decide_false, decide_true]
end Go.Eng.R
open Go Go.Eng
namespace Go.Eng.R
theorem wt_byte {x : V} (h : WtT tab t_byte x) : W_byte x := wt_u8 (h.cell 0 rfl)
theorem wt_laws_Item {x : V} (h : WtT tab t_laws_Item x) : W_Item x := ⟨wt_i64 (h.cell 0 rfl), wt_i64 (h.cell 1 rfl), wt_i64 (h.cell 2 rfl), wt_i64 (h.cell 3 rfl), wt_sl (h.cell 4 rfl) fun _ => wt_byte, wt_sl (h.cell 5 rfl) fun _ => wt_byte, wt_i64 (h.cell 6 rfl)⟩
theorem wt_bool {x : V} (h : WtT tab t_bool x) : W_bool x := trivial
theorem wt_int_ {x : V} (h : WtT tab t_int' x) : W_int x := wt_i64 (h.cell 0 rfl)
theorem wt_laws_Node {x : V} (h : WtT tab t_laws_Node x) : W_Node x := ⟨wt_i64 (h.cell 0 rfl), wt_i64 (h.cell 1 rfl), wt_i64 (h.cell 2 rfl), wt_sl (h.cell 3 rfl) fun _ => wt_laws_Item, wt_i64 (h.cell 4 rfl), wt_i64 (h.cell 5 rfl), wt_i64 (h.cell 6 rfl), wt_i64 (h.cell 7 rfl), wt_sl (h.cell 8 rfl) fun _ => wt_bool, wt_sl (h.cell 9 rfl) fun _ => wt_int_, wt_sl (h.cell 10 rfl) fun _ => wt_int_⟩
theorem wt_laws_Msg {x : V} (h : WtT tab t_laws_Msg x) : W_Msg x := ⟨wt_i64 (h.cell 0 rfl), wt_i64 (h.cell 1 rfl), wt_i64 (h.cell 2 rfl), wt_i64 (h.cell 3 rfl), wt_i64 (h.cell 4 rfl), wt_i64 (h.cell 5 rfl), wt_sl (h.cell 6 rfl) fun _ => wt_laws_Item, wt_i64 (h.cell 7 rfl), trivial⟩
def readable : List TypeId := [3, 4, 5, 22, 23, 24, 26, 28, 70, 72, 74, 76]
end Go.Eng.R
