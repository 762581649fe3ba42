/- An own evaluator of the program's form, proved sound, and what it says of this law's functions: part 5. -/
import Derived.Test.YtjgohlneldmmjaaE4
set_option linter.unusedVariables false
open Go Go.Eng
namespace Go.Eng.R
def fillTo (l : List V) (x : V) (i : Nat) : List V := List.replicate i x ++ l.drop i
theorem fillTo_len {l : List V} {x : V} {i : Nat} (h : i ≤ l.length) : (fillTo l x i).length = l.length := by simp [fillTo]; omega
theorem fillTo_set {l : List V} {x : V} {i : Nat} (h : i < l.length) : (fillTo l x i).set i x = fillTo l x (i + 1) := by
  unfold fillTo
  rw [List.set_append_right _ _ (by simp), List.length_replicate, Nat.sub_self, List.drop_eq_getElem_cons h, List.set_cons_zero, List.replicate_succ', List.append_assoc, List.singleton_append]
theorem fillTo_all (l : List V) (x : V) : fillTo l x l.length = List.replicate l.length x := by simp [fillTo]
def cntT : List V → Nat
  | [] => 0
  | x :: l => (bif gb x 0 then 1 else 0) + cntT l
theorem cntT_append (a b : List V) : cntT (a ++ b) = cntT a + cntT b := by induction a <;> simp_all [cntT]; omega
theorem cntT_succ {l : List V} {i : Nat} (h : i < l.length) : cntT (l.take (i + 1)) = cntT (l.take i) + (bif gb (rd l i) 0 then 1 else 0) := by
  rw [take_rd h, cntT_append]; simp [cntT]
theorem cntT_le (l : List V) : cntT l ≤ l.length := by
  induction l with
  | nil => simp [cntT]
  | cons x l ih => simp only [cntT, List.length_cons]; cases gb x 0 <;> simp <;> omega
theorem impl_votes_run {s : ND} {out : List V} (hl : s.votes.length ≤ 1000) : impl_server_lead_l2 (s.votes.length + 1) 0 (s.votes.length : Int) 0 (s.b 2 1 3 4 5) s.votes s.log s.next s.mtch out =
    some (((cntT s.votes : Nat) : Int), s.b 1 2 3 4 5, s.log, s.votes, s.next, s.mtch, out) := by
  refine loop_run0 (F := fun m c i => impl_server_lead_l2 m c (s.votes.length : Int) i (s.b 2 1 3 4 5) s.votes s.log s.next s.mtch out) (n := s.votes.length) (fun i c => c = ((cntT (s.votes.take i) : Nat) : Int)) (fun o => o = some (((cntT s.votes : Nat) : Int), s.b 1 2 3 4 5, s.log, s.votes, s.next, s.mtch, out)) ?_ ?_ (by simp [cntT])
  · intro m i c hi hI
    have hle := cntT_le (s.votes.take i)
    simp only [List.length_take] at hle
    refine .inl ⟨_, ?_, (rfl : ((cntT (s.votes.take (i + 1)) : Nat) : Int) = ((cntT (s.votes.take (i + 1)) : Nat) : Int))⟩
    show impl_server_lead_l2 (m + 1) c _ (i : Int) _ _ _ _ _ _ = _
    rw [impl_server_lead_l2, cntT_succ hi]
    simp only [lt_nat hi, idxOk_nat hi, Int.toNat_natCast, Nat.zero_add, cond_true, wr_succ hi (show s.votes.length ≤ 9223372036854775807 by omega)]
    cases h : gb (rd s.votes i) 0 with
    | true =>
      simp only [cond_true]
      rw [wr64' (by omega) (by omega), hI, show ((cntT (s.votes.take i) : Nat) : Int) + 1 = ((cntT (s.votes.take i) + 1 : Nat) : Int) from by omega]
      rfl
    | false =>
      simp only [cond_false, Nat.add_zero]
      rw [hI]; rfl
  · intro m c hI
    rw [List.take_length] at hI
    show impl_server_lead_l2 (m + 1) c _ _ _ _ _ _ _ _ = _
    rw [impl_server_lead_l2, lt_self, hI]; rfl
def nextX (s : ND) : V := V.int .i64 (((s.log.length : Nat) : Int) + 1)
def ND.fresh (s : ND) : ND := { s with next := List.replicate s.next.length (nextX s), mtch := List.replicate s.mtch.length (V.int .i64 0) }
theorem impl_fresh_run {s : ND} {out : List V} (hl : s.next.length ≤ 1000) (hL : s.log.length ≤ 1000) (hm : s.mtch.length = s.next.length) : impl_server_lead_l10 (s.next.length + 1) (s.next.length : Int) 0 (s.b 1 2 3 4 5) s.log s.votes s.next s.mtch out =
    some (s.b 1 2 3 4 5, s.log, s.votes, s.fresh.next, s.fresh.mtch, out) := by
  refine loop_run0 (F := fun m (r : List V × List V) i => impl_server_lead_l10 m (s.next.length : Int) i (s.b 1 2 3 4 5) s.log s.votes r.1 r.2 out) (n := s.next.length) (fun i r => r = (fillTo s.next (nextX s) i, fillTo s.mtch (V.int .i64 0) i)) (fun o => o = some (s.b 1 2 3 4 5, s.log, s.votes, s.fresh.next, s.fresh.mtch, out)) ?_ ?_ (s := (s.next, s.mtch)) rfl
  · intro m i r hi hI
    subst hI
    refine .inl ⟨_, ?_, rfl⟩
    show impl_server_lead_l10 (m + 1) _ (i : Int) _ _ _ _ _ _ = _
    rw [impl_server_lead_l10, ← fillTo_set hi, ← fillTo_set (l := s.mtch) (by omega)]
    rw [show idxOk ((i : Nat) : Int) (fillTo s.next (nextX s) i).length = true from idxOk_nat (by rw [fillTo_len (by omega)]; exact hi), show idxOk ((i : Nat) : Int) (fillTo s.mtch (V.int .i64 0) i).length = true from idxOk_nat (by rw [fillTo_len (by omega)]; omega)]
    simp only [lt_nat hi, Int.toNat_natCast, Nat.zero_add, cond_true, wr_succ hi (show s.next.length ≤ 9223372036854775807 by omega)]
    rw [wr64' (n := ((s.log.length : Nat) : Int) + 1) (by omega) (by omega)]
    rfl
  · intro m r hI
    subst hI
    show impl_server_lead_l10 (m + 1) _ _ _ _ _ _ _ _ = _
    have e2 : fillTo s.mtch (V.int .i64 0) s.next.length = List.replicate s.mtch.length (V.int .i64 0) := by rw [← hm]; exact fillTo_all _ _
    rw [impl_server_lead_l10, lt_self, fillTo_all, e2]; rfl
def noopI (t : Int) : V := V.agg [(V.int .i64 t), (V.int .i64 (-1)), (V.int .i64 0), (V.int .i64 0), (V.inl t_byte []), (V.inl t_byte []), (V.int .i64 0)]
def ND.lead' (s : ND) : ND := { s.fresh with role := 2, lead := s.id, wait := 0, log := bif decide (((s.log.length : Nat) : Int) < 400) then s.log ++ [noopI s.term] else s.log }
structure CandOk (s : ND) : Prop where
  W : W_Node s.v
  id0 : 0 ≤ s.id
  idn : s.id < (s.mtch.length : Int)
  next : s.next.length = s.mtch.length
  votes : s.votes.length = s.mtch.length
  few : s.mtch.length ≤ 5
  log : s.log.length ≤ 400
  com0 : 0 ≤ s.commit
  com1 : s.commit ≤ (s.log.length : Int)
  size : zS z_Item s.log ≤ 2000000
  nrm : Nrm s.log
theorem LW_rep' {w : V → Prop} {x : V} {k : Nat} (h : w x) (hk : k ≤ 1000) : LW w (List.replicate k x) := LW_rep h (by omega)
set_option maxRecDepth 100000 in
theorem CandOk.leadLog {s : ND} (h : CandOk s) : s.lead'.log.length ≤ s.log.length + 1 ∧ s.log.length ≤ s.lead'.log.length ∧ s.lead'.log.length ≤ 400 ∧ zS z_Item s.lead'.log ≤ 3000000 ∧ Nrm s.lead'.log ∧ LW W_Item s.lead'.log := by
  have hz := h.size; have hW := h.W; have hl := h.log
  show (bif decide (((s.log.length : Nat) : Int) < 400) then s.log ++ [noopI s.term] else s.log).length ≤ _ ∧ _ ≤ (bif decide (((s.log.length : Nat) : Int) < 400) then s.log ++ [noopI s.term] else s.log).length ∧ (bif decide (((s.log.length : Nat) : Int) < 400) then s.log ++ [noopI s.term] else s.log).length ≤ 400 ∧
    zS z_Item (bif decide (((s.log.length : Nat) : Int) < 400) then s.log ++ [noopI s.term] else s.log) ≤ _ ∧ Nrm (bif decide (((s.log.length : Nat) : Int) < 400) then s.log ++ [noopI s.term] else s.log) ∧ LW W_Item (bif decide (((s.log.length : Nat) : Int) < 400) then s.log ++ [noopI s.term] else s.log)
  by_cases hc : ((s.log.length : Nat) : Int) < 400
  · simp only [hc, decide_true, cond_true]
    have hll : (s.log ++ [noopI s.term]).length = s.log.length + 1 := by rw [List.length_append, List.length_singleton]
    have hsz : zS z_Item [noopI s.term] = 1 := rfl
    refine ⟨by omega, by omega, by omega, by rw [zS_append, hsz]; omega, nrm_append h.nrm rfl, by rw [hll]; omega, fun x hx => ?_⟩
    rcases List.mem_append.1 hx with hx | hx
    · exact hW.2.2.2.1.2 x hx
    · obtain rfl := List.mem_singleton.1 hx
      exact ⟨hW.2.1, I64_m1, I64_0, I64_0, LW.nil, LW.nil, I64_0⟩
  · simp only [hc, decide_false, cond_false]
    exact ⟨by omega, by omega, by omega, by omega, h.nrm, hW.2.2.2.1⟩
set_option maxRecDepth 100000 in
theorem CandOk.leads {s : ND} (h : CandOk s) : LeadOk s.lead' := by
  obtain ⟨l1, l2, l3, l4, l5, l6⟩ := h.leadLog
  have hW := h.W; have hf := h.few; have hn := h.next; have hv := h.votes; have c0 := h.com0; have c1 := h.com1; have hl := h.log
  have hnl : s.lead'.next.length = s.next.length := List.length_replicate
  have hml : s.lead'.mtch.length = s.mtch.length := List.length_replicate
  refine ⟨⟨hW.1, hW.2.1, hW.2.2.1, l6, hW.2.2.2.2.1, (show I64 2 from ⟨by decide, by decide⟩), hW.1, I64_0, hW.2.2.2.2.2.2.2.2.1, ?_, ?_⟩, h.id0, by rw [hml]; exact h.idn, by rw [hnl, hml]; exact hn, by rw [hml]; exact hv, by rw [hml]; exact hf, by omega, c0, by show s.commit ≤ _; omega, by omega, fun i hi hne => ?_⟩
  · exact LW_rep' (w := W_int) (x := nextX s) ⟨by show (-9223372036854775808 : Int) ≤ ((s.log.length : Nat) : Int) + 1; omega, by show ((s.log.length : Nat) : Int) + 1 ≤ 9223372036854775807; omega⟩ (by omega)
  · exact LW_rep' (w := W_int) (x := V.int .i64 0) I64_0 (by omega)
  · have hi : i < s.votes.length := hi
    have hi2 : i < s.next.length := by rw [hn, ← hv]; exact hi
    have e : rd (List.replicate s.next.length (nextX s)) i = nextX s := by simp [rd, List.getD, hi2]
    refine ⟨by show i < (List.replicate s.next.length (nextX s)).length; rw [List.length_replicate]; exact hi2, ?_, ?_, by show s.lead'.log.length ≤ 401; omega⟩
    · show 1 ≤ gi (rd (List.replicate s.next.length (nextX s)) i) 0
      rw [e]; show (1 : Int) ≤ ((s.log.length : Nat) : Int) + 1; omega
    · show gi (rd (List.replicate s.next.length (nextX s)) i) 0 ≤ ((s.lead'.log.length : Nat) : Int) + 1
      rw [e]; show ((s.log.length : Nat) : Int) + 1 ≤ _; omega
def mostB (s : ND) : Bool := decide (((s.votes.length : Nat) : Int) < 2 * ((cntT s.votes : Nat) : Int))
set_option maxRecDepth 100000 in
theorem impl_lead_eq {s : ND} (h : CandOk s) {out : List V} (ho : out.length ≤ 1000) : impl_server_lead (s.sv out) = some (bif mostB s then s.lead'.adv.sv (out ++ msgsN s.lead'.adv.v s.votes.length) else s.sv out) := by
  have hf := h.few; have hn := h.next; have hv := h.votes; have hl := h.log
  have hcl := cntT_le s.votes
  have e1 := impl_votes_run (s := s) (out := out) (by omega)
  have e2 := impl_fresh_run (s := ({ s with role := 2, lead := s.id, wait := 0 } : ND)) (out := out) (show s.next.length ≤ 1000 by omega) (show s.log.length ≤ 1000 by omega) (show s.mtch.length = s.next.length by omega)
  have e3 := h.leads.impl ho
  obtain ⟨r1, p0, p1⟩ := Option.bind_eq_some_iff.1 e3
  unfold impl_server_lead
  rw [show gl (s.sv out) 8 = s.votes from rfl, fuel_eq]
  refine Eq.trans (congrArg (fun o => Option.bind o _) e1) ?_
  simp only [Option.bind_some, impl_Node_most]
  rw [wr64' (n := 2 * ((cntT s.votes : Nat) : Int)) (by omega) (by omega)]
  by_cases hm : ((s.votes.length : Nat) : Int) < 2 * ((cntT s.votes : Nat) : Int)
  case neg =>
    rw [show mostB s = false from decide_eq_false hm]
    simp only [gl_c0, gl_cs, hm, decide_false, Bool.not_false, cond_true, cond_false]
    rfl
  case pos =>
    rw [show mostB s = true from decide_eq_true hm]
    simp only [gl_c0, gl_cs, hm, decide_true, Bool.not_true, cond_false, cond_true, fuel_eq]
    refine Eq.trans (congrArg (fun o => Option.bind o _) e2) ?_
    simp only [Option.bind_some]
    by_cases hc : ((s.log.length : Nat) : Int) < 400
    · have hlog : s.lead'.log = s.log ++ [noopI s.term] := by show (bif decide (((s.log.length : Nat) : Int) < 400) then _ else _) = _; rw [decide_eq_true hc]; rfl
      simp only [hc, decide_true, cond_true]
      rw [roomyB (n := s.log.length + 1) (by omega) (by omega)]
      simp only [cond_true]
      refine Eq.trans (congrArg (fun o => Option.bind o _) (show _ = some r1 from ?_)) ?_
      · rw [← p0]; unfold ND.sv; rw [hlog]; rfl
      · simp only [Option.bind_some, p1]; rfl
    · have hlog : s.lead'.log = s.log := by show (bif decide (((s.log.length : Nat) : Int) < 400) then _ else _) = _; rw [decide_eq_false hc]; rfl
      simp only [hc, decide_false, cond_false]
      refine Eq.trans (congrArg (fun o => Option.bind o _) (show _ = some r1 from ?_)) ?_
      · rw [← p0]; unfold ND.sv; rw [hlog]; rfl
      · simp only [Option.bind_some, p1]; rfl
end Go.Eng.R
open Go Go.Eng
namespace Go.Eng.R
def ND.clr (s : ND) : ND := { s with role := 0, votes := List.replicate s.votes.length (V.bool false), next := List.replicate s.next.length (V.int .i64 0), mtch := List.replicate s.mtch.length (V.int .i64 0) }
def ND.fol (s : ND) (t : Int) : ND := bif decide (s.term < t) then ({ s with term := t, vote := -1, lead := -1 } : ND).clr else s.clr
theorem impl_follow_eq (s : ND) (out : List V) (t : Int) : impl_server_follow (s.sv out) t = (s.fol t).sv out := by
  unfold impl_server_follow ND.fol
  have e8 : (gl (s.sv out) 8).drop (0 + (gl (s.sv out) 8).length) = [] := by simp
  have e9 : (gl (s.sv out) 9).drop (0 + (gl (s.sv out) 9).length) = [] := by simp
  have e10 : (gl (s.sv out) 10).drop (0 + (gl (s.sv out) 10).length) = [] := by simp
  rw [e8, e9, e10, show gi (s.sv out) 1 = s.term from rfl]
  simp only [List.append_nil]
  cases decide (s.term < t) <;> rfl
set_option maxRecDepth 100000 in
theorem StepOk'.cand {s : ND} (h : CandOk s) : StepOk' (bif mostB s then s.lead'.adv else s) (bif mostB s then msgsN s.lead'.adv.v s.votes.length else []) := by
  have hf := h.few; have hn := h.next; have hv := h.votes; have hz := h.size; have hl := h.log
  cases mostB s with
  | true =>
    obtain ⟨l1, l2, l3, l4, l5, l6⟩ := h.leadLog
    exact StepOk'.led h.leads l5 l4
  | false =>
    show StepOk' s []
    exact StepOk'.none h.W h.nrm (by omega) (by omega) (by omega) (by omega)
end Go.Eng.R
open Go Go.Eng
namespace Go.Eng.R
def ptm (m : V) (i : Nat) : Int := if i = 0 then gi m 5 else gi (rd (gl m 6) (i - 1)) 0
theorem ptm_succ (m : V) (i : Nat) : ptm m (i + 1) = gi (rd (gl m 6) i) 0 := by simp [ptm]
def stepM (m : V) (i : Nat) : Bool := itemB (rd (gl m 6) i) && (decide (ptm m i ≤ gi (rd (gl m 6) i) 0) && decide (gi (rd (gl m 6) i) 0 ≤ gi m 3))
def stepM' (m : V) (i : Nat) : Bool := itemB (rd (gl m 6) i) && (decide (gi (rd (gl m 6) i) 0 ≤ gi m 3) && ((decide (i = 0) || decide (gi (rd (gl m 6) (i - 1)) 0 ≤ gi (rd (gl m 6) i) 0)) && decide (gi m 5 ≤ gi (rd (gl m 6) i) 0)))
theorem stepM_all (m : V) (n : Nat) : (List.range n).all (stepM' m) = (List.range n).all (stepM m) := by
  induction n with
  | zero => rfl
  | succ n ih =>
    rw [range_all_succ, range_all_succ, ih]
    cases hn : (List.range n).all (stepM m) with
    | false => rfl
    | true =>
      simp only [Bool.true_and]
      rw [List.all_eq_true] at hn
      have key : ∀ i, i < n → gi m 5 ≤ gi (rd (gl m 6) i) 0 := by
        intro i
        induction i with
        | zero => intro h; have := hn 0 (List.mem_range.2 h); simp only [stepM, ptm, Bool.and_eq_true, decide_eq_true_eq] at this; simpa using this.2.1
        | succ i ih =>
          intro h
          have h1 := ih (by omega)
          have := hn (i + 1) (List.mem_range.2 h)
          simp only [stepM, ptm_succ, Bool.and_eq_true, decide_eq_true_eq] at this
          have h2 := this.2.1
          omega
      unfold stepM stepM' ptm
      cases itemB (rd (gl m 6) n) with
      | false => rfl
      | true =>
        simp only [Bool.true_and]
        cases n with
        | zero => simp [Bool.and_comm]
        | succ j =>
          have := key j (by omega)
          simp only [Nat.add_sub_cancel, show ¬ (j + 1 = 0) from by omega, if_false, decide_false, Bool.false_or]
          by_cases h1 : gi (rd (gl m 6) j) 0 ≤ gi (rd (gl m 6) (j + 1)) 0
          · rw [decide_eq_true h1, decide_eq_true (show gi m 5 ≤ gi (rd (gl m 6) (j + 1)) 0 by omega)]; simp
          · rw [decide_eq_false h1]; simp
def itemsOkB (m : V) : Bool := (List.range (gl m 6).length).all (stepM m)
theorem spec_msgItems_run {m : V} (hm : W_Msg m) : spec_MsgOk_l6 ((gl m 6).length + 1) 0 (n_impl_Msg m) =
    bif itemsOkB m then some (1, false, n_impl_Msg m) else some (0, false, n_impl_Msg m) := by
  have hl := hm.2.2.2.2.2.2.1.1
  unfold itemsOkB
  rw [← stepM_all]
  refine all_range (F := fun k i => spec_MsgOk_l6 k i (n_impl_Msg m)) (fun k i hi => ?_) (fun k => ?_)
  · have e : spec_ItemOk (n_impl_Item (rd (gl m 6) i)) = some (itemB (rd (gl m 6) i)) := spec_ItemOk_eq (x := n_impl_Item (rd (gl m 6) i)) (hm.2.2.2.2.2.2.1.rd hi)
    show spec_MsgOk_l6 (k + 1) i (n_impl_Msg m) = _
    rw [spec_MsgOk_l6]
    simp only [show gl (n_impl_Msg m) 6 = gl m 6 from rfl, show gi (n_impl_Msg m) 3 = gi m 3 from rfl, show gi (n_impl_Msg m) 5 = gi m 5 from rfl, lt_nat hi, idxOk_nat hi, Int.toNat_natCast, cond_true, e, Option.bind_some, wr_succ hi hl, stepM']
    cases itemB (rd (gl m 6) i) with
    | false => rfl
    | true =>
      simp only [Bool.not_true, cond_false, Bool.true_and]
      by_cases h1 : gi (rd (gl m 6) i) 0 ≤ gi m 3
      · rw [show decide (gi m 3 < gi (rd (gl m 6) i) 0) = false from by simp; omega, cond_false, decide_eq_true h1, Bool.true_and]
        have hlast : (bif decide (gi (rd (gl m 6) i) 0 < gi m 5) then some (0, false, n_impl_Msg m) else spec_MsgOk_l6 k ((i + 1 : Nat) : Int) (n_impl_Msg (m))) = bif decide (gi m 5 ≤ gi (rd (gl m 6) i) 0) then spec_MsgOk_l6 k ((i + 1 : Nat) : Int) (n_impl_Msg (m)) else some (0, false, n_impl_Msg m) := by
          by_cases h3 : gi m 5 ≤ gi (rd (gl m 6) i) 0
          · rw [show decide (gi (rd (gl m 6) i) 0 < gi m 5) = false from by simp; omega, decide_eq_true h3]; rfl
          · rw [show decide (gi (rd (gl m 6) i) 0 < gi m 5) = true from by simp; omega, decide_eq_false h3]; rfl
        cases i with
        | zero =>
          rw [show decide ((0 : Int) < ((0 : Nat) : Int)) = false from by simp, cond_false]
          exact hlast
        | succ j =>
          have hj : j < (gl m 6).length := by omega
          have ew : IntKind.i64.wrap (((j + 1 : Nat) : Int) - 1) = ((j : Nat) : Int) := by rw [wr64' (by omega) (by omega)]; omega
          rw [show decide ((0 : Int) < ((j + 1 : Nat) : Int)) = true from decide_eq_true (by omega), cond_true, ew, idxOk_nat hj, cond_true, Int.toNat_natCast, show decide (j + 1 = 0) = false from by simp, Bool.false_or, Nat.add_sub_cancel]
          by_cases h2 : gi (rd (gl m 6) j) 0 ≤ gi (rd (gl m 6) (j + 1)) 0
          · rw [show decide (gi (rd (gl m 6) (j + 1)) 0 < gi (rd (gl m 6) j) 0) = false from by simp; omega, decide_eq_true h2, cond_false, Bool.true_and]
            exact hlast
          · rw [show decide (gi (rd (gl m 6) (j + 1)) 0 < gi (rd (gl m 6) j) 0) = true from by simp; omega, decide_eq_false h2]; rfl
      · rw [show decide (gi m 3 < gi (rd (gl m 6) i) 0) = true from by simp; omega, decide_eq_false h1]; rfl
  · show spec_MsgOk_l6 (k + 1) _ (n_impl_Msg m) = _
    rw [spec_MsgOk_l6]
    simp only [show gl (n_impl_Msg m) 6 = gl m 6 from rfl, lt_self, cond_false]
    rfl
theorem impl_msgItems_run {m : V} (hm : W_Msg m) : impl_MsgOk_l11 ((gl m 6).length + 1) (gi m 5) (gl m 6) (((gl m 6).length : Nat) : Int) 0 (n_impl_Msg m) =
    bif itemsOkB m then some (1, false, n_impl_Msg m) else some (0, false, n_impl_Msg m) := by
  have hl := hm.2.2.2.2.2.2.1.1
  refine all_run (F := fun k t i => impl_MsgOk_l11 k t (gl m 6) (((gl m 6).length : Nat) : Int) i (n_impl_Msg m)) (fun i t => t = ptm m i) (fun k i t hi ht => ?_) (fun k t ht => ?_) rfl
  · subst ht
    have e : impl_ItemOk (n_impl_Item (rd (gl m 6) i)) = some (itemB (rd (gl m 6) i)) := impl_ItemOk_eq (x := n_impl_Item (rd (gl m 6) i)) (hm.2.2.2.2.2.2.1.rd hi)
    have e0 : impl_MsgOk_l11 (k + 1) (ptm m i) (gl m 6) (((gl m 6).length : Nat) : Int) i (n_impl_Msg m) = bif (!(itemB (rd (gl m 6) i))) then some (0, false, n_impl_Msg m) else bif (!(decide (ptm m i ≤ gi (rd (gl m 6) i) 0 ∧ gi (rd (gl m 6) i) 0 ≤ gi m 3))) then some (0, false, n_impl_Msg m)
        else impl_MsgOk_l11 k (gi (rd (gl m 6) i) 0) (gl m 6) (((gl m 6).length : Nat) : Int) ((i + 1 : Nat) : Int) (n_impl_Msg m) := by
      rw [impl_MsgOk_l11]
      simp only [lt_nat hi, idxOk_nat hi, Int.toNat_natCast, cond_true, e, Option.bind_some, wr_succ hi hl, within_eq]
      rfl
    unfold stepM
    cases hit : itemB (rd (gl m 6) i) with
    | false => exact .inr ⟨rfl, by show impl_MsgOk_l11 (k + 1) _ _ _ _ _ = _; rw [e0, hit]; rfl⟩
    | true =>
      rw [hit] at e0
      by_cases h1 : ptm m i ≤ gi (rd (gl m 6) i) 0 ∧ gi (rd (gl m 6) i) 0 ≤ gi m 3
      · refine .inl ⟨by rw [decide_eq_true h1.1, decide_eq_true h1.2]; rfl, gi (rd (gl m 6) i) 0, ?_, ?_⟩
        · show impl_MsgOk_l11 (k + 1) _ _ _ _ _ = _; rw [e0, decide_eq_true h1]; rfl
        · simp [ptm]
      · refine .inr ⟨?_, by show impl_MsgOk_l11 (k + 1) _ _ _ _ _ = _; rw [e0, decide_eq_false h1]; rfl⟩
        by_cases h2 : ptm m i ≤ gi (rd (gl m 6) i) 0
        · rw [decide_eq_true h2, decide_eq_false (fun h => h1 ⟨h2, h⟩)]; rfl
        · rw [decide_eq_false h2]; rfl
  · show impl_MsgOk_l11 (k + 1) _ _ _ _ (n_impl_Msg m) = _
    rw [impl_MsgOk_l11, lt_self]; rfl
structure MsgP (m : V) : Prop where
  kind0 : 0 ≤ gi m 0
  kind3 : gi m 0 ≤ 3
  from0 : 0 ≤ gi m 1
  from4 : gi m 1 < 5
  to0 : 0 ≤ gi m 2
  to4 : gi m 2 < 5
  ne : gi m 1 ≠ gi m 2
  term1 : 1 ≤ gi m 3
  termM : gi m 3 ≤ 100000
  prev0 : 0 ≤ gi m 4
  prevM : gi m 4 ≤ 400
  pt0 : 0 ≤ gi m 5
  ptT : gi m 5 ≤ gi m 3
  com0 : 0 ≤ gi m 7
  comM : gi m 7 ≤ 400
  len4 : ((gl m 6).length : Int) ≤ 4
  lenP : ((gl m 6).length : Int) ≤ 400 - gi m 4
  zero : gi m 0 = 0 ∨ gi m 0 = 2 → (gi m 4 = 0 ↔ gi m 5 = 0)
  items : itemsOkB m = true
  ask : gi m 0 = 0 → (gl m 6).length = 0 ∧ gi m 7 = 0 ∧ gb m 8 = false
  vote : gi m 0 = 1 → gi m 4 = 0 ∧ gi m 5 = 0 ∧ (gl m 6).length = 0 ∧ gi m 7 = 0
  add : gi m 0 = 2 → gb m 8 = false
  ack : gi m 0 = 3 → gi m 5 = 0 ∧ (gl m 6).length = 0 ∧ gi m 7 = 0
noncomputable def msgB (m : V) : Bool := @decide (MsgP m) (Classical.propDecidable _)
theorem msgB_false {m : V} (h : MsgP m → False) : msgB m = false := @decide_eq_false _ (Classical.propDecidable _) h
theorem msgB_true {m : V} (h : MsgP m) : msgB m = true := @decide_eq_true _ (Classical.propDecidable _) h
theorem msgB_p {m : V} (h : msgB m = true) : MsgP m := @of_decide_eq_true _ (Classical.propDecidable _) h
theorem chkT {c b : Bool} {rest : Option Bool} (h1 : c = false → b = false) (h2 : c = true → rest = some b) : (bif c then rest else some false) = some b := by
  cases c with
  | false => rw [h1 rfl]; rfl
  | true => exact h2 rfl
end Go.Eng.R
open Go Go.Eng
namespace Go.Eng.R
theorem server5_eq (n : Int) : spec_l3server n = decide (0 ≤ n ∧ n < 5) := by
  unfold spec_l3server; by_cases h : 0 ≤ n <;> simp [h]
theorem place_eq (n : Int) : spec_l3place n = decide (0 ≤ n ∧ n ≤ 400) := by
  unfold spec_l3place; by_cases h : 0 ≤ n <;> simp [h]
theorem spec_MsgOk_eq {m : V} (hm : W_Msg m) : spec_MsgOk (n_impl_Msg m) = some (msgB m) := by
  have hlen := hm.2.2.2.2.2.2.1.1
  unfold spec_MsgOk
  simp only [server5_eq, term_eq, place_eq, fuel_eq, show n_impl_Msg (n_impl_Msg m) = n_impl_Msg m from rfl, show gi (n_impl_Msg m) 0 = gi m 0 from rfl, show gi (n_impl_Msg m) 1 = gi m 1 from rfl, show gi (n_impl_Msg m) 2 = gi m 2 from rfl, show gi (n_impl_Msg m) 3 = gi m 3 from rfl, show gi (n_impl_Msg m) 4 = gi m 4 from rfl, show gi (n_impl_Msg m) 5 = gi m 5 from rfl, show gl (n_impl_Msg m) 6 = gl m 6 from rfl, show gi (n_impl_Msg m) 7 = gi m 7 from rfl, spec_msgItems_run hm]
  refine chk (fun h => msgB_false fun p => absurd (yes_of h) (Int.not_lt.2 p.kind0)) fun h => ?_
  have kind0 := no_of h
  refine chk (fun h => msgB_false fun p => absurd (yes_of h) (Int.not_lt.2 p.kind3)) fun h => ?_
  have kind3 := no_of h
  refine chk (fun h => msgB_false fun p => not_of h ⟨p.from0, p.from4⟩) fun h => ?_
  have hfrom := of_not h
  refine chk (fun h => msgB_false fun p => not_of h ⟨p.to0, p.to4⟩) fun h => ?_
  have hto := of_not h
  refine chk (fun h => msgB_false fun p => p.ne (yes_of h)) fun h => ?_
  have hne := no_of h
  refine chk (fun h => msgB_false fun p => absurd (yes_of h) (Int.not_lt.2 p.term1)) fun h => ?_
  have term1 := no_of h
  refine chk (fun h => msgB_false fun p => not_of h ⟨by have := p.term1; omega, p.termM⟩) fun h => ?_
  have hterm := of_not h
  refine chk (fun h => msgB_false fun p => not_of h ⟨p.prev0, p.prevM⟩) fun h => ?_
  have hprev := of_not h
  refine chk (fun h => msgB_false fun p => not_of h ⟨p.pt0, by have := p.ptT; have := p.termM; omega⟩) fun h => ?_
  have hpt := of_not h
  refine chk (fun h => msgB_false fun p => absurd (yes_of h) (Int.not_lt.2 p.ptT)) fun h => ?_
  have ptT := no_of h
  refine chk (fun h => msgB_false fun p => not_of h ⟨p.com0, p.comM⟩) fun h => ?_
  have hcom := of_not h
  refine chk (fun h => msgB_false fun p => absurd (yes_of h) (Int.not_lt.2 p.len4)) fun h => ?_
  have len4 := no_of h
  rw [wr64' (n := 400 - gi m 4) (by omega) (by omega)]
  refine chk (fun h => msgB_false fun p => absurd (yes_of h) (Int.not_lt.2 p.lenP)) fun h => ?_
  have lenP := no_of h
  clear h
  have fin : ∀ (hz : gi m 0 = 0 ∨ gi m 0 = 2 → (gi m 4 = 0 ↔ gi m 5 = 0)), (Option.bind (bif itemsOkB m then some (1, false, n_impl_Msg m) else some (0, false, n_impl_Msg m)) fun r37 : Nat × Bool × V =>
      bif (Nat.beq r37.1 0) then
        some r37.2.1
      else bif (decide ((gi r37.2.2 0) = 0)) then
        bif (decide ((((gl r37.2.2 6).length : Nat) : Int) = 0)) then
          bif (decide ((gi r37.2.2 7) = 0)) then
            some (!(gb r37.2.2 8))
          else some false
        else some false
      else bif (decide ((gi r37.2.2 0) = 1)) then
        bif (decide ((gi r37.2.2 4) = 0)) then
          bif (decide ((gi r37.2.2 5) = 0)) then
            bif (decide ((((gl r37.2.2 6).length : Nat) : Int) = 0)) then
              some (decide ((gi r37.2.2 7) = 0))
            else some false
          else some false
        else some false
      else bif (decide ((gi r37.2.2 0) = 2)) then
        some (!(gb r37.2.2 8))
      else bif (decide ((gi r37.2.2 5) = 0)) then
        bif (decide ((((gl r37.2.2 6).length : Nat) : Int) = 0)) then
          some (decide ((gi r37.2.2 7) = 0))
        else some false
      else some false) = some (msgB m) := by
    intro hz
    cases hit : itemsOkB m with
    | false => rw [msgB_false fun p => by rw [p.items] at hit; cases hit]; rfl
    | true =>
      show (bif (decide ((gi m 0) = 0)) then
        bif (decide ((((gl m 6).length : Nat) : Int) = 0)) then bif (decide ((gi m 7) = 0)) then some (!(gb m 8)) else some false else some false
      else bif (decide ((gi m 0) = 1)) then
        bif (decide ((gi m 4) = 0)) then bif (decide ((gi m 5) = 0)) then bif (decide ((((gl m 6).length : Nat) : Int) = 0)) then some (decide ((gi m 7) = 0)) else some false else some false else some false
      else bif (decide ((gi m 0) = 2)) then some (!(gb m 8))
      else bif (decide ((gi m 5) = 0)) then bif (decide ((((gl m 6).length : Nat) : Int) = 0)) then some (decide ((gi m 7) = 0)) else some false else some false) = _
      have mk : ∀ (a : gi m 0 = 0 → (gl m 6).length = 0 ∧ gi m 7 = 0 ∧ gb m 8 = false) (v : gi m 0 = 1 → gi m 4 = 0 ∧ gi m 5 = 0 ∧ (gl m 6).length = 0 ∧ gi m 7 = 0) (b : gi m 0 = 2 → gb m 8 = false) (c : gi m 0 = 3 → gi m 5 = 0 ∧ (gl m 6).length = 0 ∧ gi m 7 = 0), msgB m = true := fun a v b c => msgB_true ⟨by omega, by omega, hfrom.1, hfrom.2, hto.1, hto.2, hne, by omega, hterm.2, hprev.1, hprev.2, hpt.1, by omega, hcom.1, hcom.2, by omega, by omega, hz, hit, a, v, b, c⟩
      by_cases k0 : gi m 0 = 0
      · rw [decide_eq_true k0, cond_true]
        refine chkT (fun h => msgB_false fun p => no_of h (by have := (p.ask k0).1; omega)) fun h1 => ?_
        refine chkT (fun h => msgB_false fun p => no_of h (p.ask k0).2.1) fun h2 => ?_
        cases h3 : gb m 8 with
        | true => rw [msgB_false fun p => by rw [(p.ask k0).2.2] at h3; cases h3]; rfl
        | false => rw [mk (fun _ => ⟨by have := yes_of h1; omega, yes_of h2, h3⟩) (fun h => by omega) (fun h => by omega) (fun h => by omega)]; rfl
      rw [decide_eq_false k0, cond_false]
      by_cases k1 : gi m 0 = 1
      · rw [decide_eq_true k1, cond_true]
        refine chkT (fun h => msgB_false fun p => no_of h (p.vote k1).1) fun h1 => ?_
        refine chkT (fun h => msgB_false fun p => no_of h (p.vote k1).2.1) fun h2 => ?_
        refine chkT (fun h => msgB_false fun p => no_of h (by have := (p.vote k1).2.2.1; omega)) fun h3 => ?_
        by_cases h4 : gi m 7 = 0
        · rw [mk (fun h => by omega) (fun _ => ⟨yes_of h1, yes_of h2, by have := yes_of h3; omega, h4⟩) (fun h => by omega) (fun h => by omega), decide_eq_true h4]
        · rw [msgB_false fun p => h4 (p.vote k1).2.2.2, decide_eq_false h4]
      rw [decide_eq_false k1, cond_false]
      by_cases k2 : gi m 0 = 2
      · rw [decide_eq_true k2, cond_true]
        cases h3 : gb m 8 with
        | true => rw [msgB_false fun p => by rw [p.add k2] at h3; cases h3]; rfl
        | false => rw [mk (fun h => by omega) (fun h => by omega) (fun _ => h3) (fun h => by omega)]; rfl
      rw [decide_eq_false k2, cond_false]
      have k3 : gi m 0 = 3 := by omega
      refine chkT (fun h => msgB_false fun p => no_of h (p.ack k3).1) fun h2 => ?_
      refine chkT (fun h => msgB_false fun p => no_of h (by have := (p.ack k3).2.1; omega)) fun h3 => ?_
      by_cases h4 : gi m 7 = 0
      · rw [mk (fun h => by omega) (fun h => by omega) (fun h => by omega) (fun _ => ⟨yes_of h2, by have := yes_of h3; omega, h4⟩), decide_eq_true h4]
      · rw [msgB_false fun p => h4 (p.ack k3).2.2, decide_eq_false h4]
  by_cases hz : (gi m 4 = 0 ↔ gi m 5 = 0)
  · rw [show (decide (gi m 4 = 0) == decide (gi m 5 = 0)) = true from by rw [beq_iff_eq]; exact decide_eq_decide.2 hz, Bool.not_true, cond_false]
    exact fin fun _ => hz
  · rw [show (decide (gi m 4 = 0) == decide (gi m 5 = 0)) = false from by rw [beq_eq_false_iff_ne]; exact fun h => hz (decide_eq_decide.1 h), Bool.not_false, cond_true]
    by_cases k3 : gi m 0 = 3
    · rw [decide_eq_true k3, Bool.not_true, cond_false]
      exact fin fun h => by omega
    rw [decide_eq_false k3, Bool.not_false, cond_true]
    by_cases k1 : gi m 0 = 1
    · rw [decide_eq_true k1, Bool.not_true, cond_false]
      exact fin fun h => by omega
    rw [decide_eq_false k1, Bool.not_false, cond_true, msgB_false fun p => hz (p.zero (by omega))]
end Go.Eng.R
open Go Go.Eng
namespace Go.Eng.R
theorem isTerm_eq (n : Int) : impl_isTerm n = decide (1 ≤ n ∧ n ≤ 100000) := by unfold impl_isTerm; exact within_eq _ _ _
theorem impl_MsgOk_eq {m : V} (hm : W_Msg m) : impl_MsgOk (n_impl_Msg m) = some (msgB m) := by
  have hlen := hm.2.2.2.2.2.2.1.1
  unfold impl_MsgOk
  simp only [isTerm_eq, within_eq, fuel_eq, show n_impl_Msg (n_impl_Msg m) = n_impl_Msg m from rfl, show gi (n_impl_Msg m) 0 = gi m 0 from rfl, show gi (n_impl_Msg m) 1 = gi m 1 from rfl, show gi (n_impl_Msg m) 2 = gi m 2 from rfl, show gi (n_impl_Msg m) 3 = gi m 3 from rfl, show gi (n_impl_Msg m) 4 = gi m 4 from rfl, show gi (n_impl_Msg m) 5 = gi m 5 from rfl, show gl (n_impl_Msg m) 6 = gl m 6 from rfl, show gi (n_impl_Msg m) 7 = gi m 7 from rfl, show gb (n_impl_Msg m) 8 = gb m 8 from rfl, impl_msgItems_run hm]
  refine chk (fun h => msgB_false fun p => not_of h ⟨p.kind0, p.kind3⟩) fun h => ?_
  have hkind := of_not h
  refine chk (fun h => msgB_false fun p => not_of h ⟨p.from0, by have := p.from4; omega⟩) fun h => ?_
  have hfrom := of_not h
  refine chk (fun h => msgB_false fun p => not_of h ⟨p.to0, by have := p.to4; omega⟩) fun h => ?_
  have hto := of_not h
  refine chk (fun h => msgB_false fun p => p.ne (yes_of h)) fun h => ?_
  have hne := no_of h
  refine chk (fun h => msgB_false fun p => not_of h ⟨p.term1, p.termM⟩) fun h => ?_
  have hterm := of_not h
  clear h
  have fin : ∀ (hprev : 0 ≤ gi m 4 ∧ gi m 4 ≤ 400) (hpt : 0 ≤ gi m 5 ∧ gi m 5 ≤ gi m 3) (hz : gi m 0 = 0 ∨ gi m 0 = 2 → (gi m 4 = 0 ↔ gi m 5 = 0)) (a : gi m 0 = 0 → (gl m 6).length = 0 ∧ gi m 7 = 0 ∧ gb m 8 = false) (v : gi m 0 = 1 → gi m 4 = 0 ∧ gi m 5 = 0 ∧ (gl m 6).length = 0 ∧ gi m 7 = 0) (b : gi m 0 = 2 → gb m 8 = false) (c : gi m 0 = 3 → gi m 5 = 0 ∧ (gl m 6).length = 0 ∧ gi m 7 = 0),
      (Option.bind (bif itemsOkB m then some (1, false, n_impl_Msg m) else some (0, false, n_impl_Msg m)) fun r : Nat × Bool × V =>
        bif (Nat.beq r.1 0) then some r.2.1
        else bif (decide ((((gl r.2.2 6).length : Nat) : Int) ≤ 4)) then
          bif (decide ((((gl r.2.2 6).length : Nat) : Int) ≤ (IntKind.i64.wrap (400 - (gi r.2.2 4))))) then
            some (decide (0 ≤ gi r.2.2 7 ∧ gi r.2.2 7 ≤ 400))
          else some false
        else some false) = some (msgB m) := by
    intro hprev hpt hz a v b c
    cases hit : itemsOkB m with
    | false => rw [msgB_false fun p => by rw [p.items] at hit; cases hit]; rfl
    | true =>
      show (bif (decide ((((gl m 6).length : Nat) : Int) ≤ 4)) then bif (decide ((((gl m 6).length : Nat) : Int) ≤ (IntKind.i64.wrap (400 - (gi m 4))))) then some (decide (0 ≤ gi m 7 ∧ gi m 7 ≤ 400)) else some false else some false) = _
      rw [wr64' (n := 400 - gi m 4) (by omega) (by omega)]
      refine chkT (fun h => msgB_false fun p => no_of h p.len4) fun h1 => ?_
      refine chkT (fun h => msgB_false fun p => no_of h p.lenP) fun h2 => ?_
      by_cases h4 : 0 ≤ gi m 7 ∧ gi m 7 ≤ 400
      · rw [decide_eq_true h4, msgB_true ⟨hkind.1, hkind.2, hfrom.1, by omega, hto.1, by omega, hne, hterm.1, hterm.2, hprev.1, hprev.2, hpt.1, hpt.2, h4.1, h4.2, yes_of h1, yes_of h2, hz, hit, a, v, b, c⟩]
      · rw [decide_eq_false h4, msgB_false fun p => h4 ⟨p.com0, p.comM⟩]
  have short : ∀ (c4 : gl m 6 = []) (c7 : gi m 7 = 0) (p5 : gi m 5 = 0) (hk : gi m 0 = 1 ∧ gi m 4 = 0 ∨ gi m 0 = 3), some (decide (0 ≤ gi m 4 ∧ gi m 4 ≤ 400)) = some (msgB m) := by
    intro c4 c7 p5 hk
    by_cases h4 : 0 ≤ gi m 4 ∧ gi m 4 ≤ 400
    · rw [decide_eq_true h4, msgB_true ⟨hkind.1, hkind.2, hfrom.1, by omega, hto.1, by omega, hne, hterm.1, hterm.2, h4.1, h4.2, by omega, by omega, by omega, by omega, by rw [c4]; simp, by rw [c4]; simp; omega, by omega, by unfold itemsOkB; rw [c4]; rfl, by omega, fun _ => ⟨by omega, p5, by rw [c4]; rfl, c7⟩, by omega, fun _ => ⟨p5, by rw [c4]; rfl, c7⟩⟩]
    · rw [decide_eq_false h4, msgB_false fun p => h4 ⟨p.prev0, p.prevM⟩]
  by_cases k2 : gi m 0 = 2
  · simp only [k2, decide_true, Bool.not_true, cond_false, show ¬ ((2 : Int) = 1) by decide, show ¬ ((2 : Int) = 3) by decide, decide_false]
    refine chk (fun h => msgB_false fun p => by have := p.add k2; rw [h] at this; cases this) fun h8 => ?_
    refine chk (fun h => msgB_false fun p => not_of h ⟨p.prev0, p.prevM⟩) fun h => ?_
    have hprev := of_not h
    by_cases p0 : gi m 4 = 0
    · simp only [p0, decide_true, cond_true, show ¬ ((0 : Int) < 0) by decide, decide_false, cond_false]
      refine chk (fun h => msgB_false fun p => not_of h ((p.zero (.inr k2)).1 p0)) fun h => ?_
      have p5 := of_not h
      exact fin hprev (by omega) (by omega) (by omega) (by omega) (fun _ => h8) (by omega)
    · simp only [p0, decide_false, cond_false, show (0 : Int) < gi m 4 by omega, decide_true, cond_true]
      refine chk (fun h => msgB_false fun p => not_of h ⟨by have := p.zero (.inr k2); have := p.pt0; omega, p.ptT⟩) fun h => ?_
      have p5 := of_not h
      exact fin hprev (by omega) (by omega) (by omega) (by omega) (fun _ => h8) (by omega)
  simp only [k2, decide_false, Bool.not_false, cond_true]
  refine chk (fun h => msgB_false fun p => ?_) fun h => ?_
  · have hl : (0 : Int) < ((gl m 6).length : Int) := yes_of h
    have h0 := p.ask; have h1 := p.vote; have h3 := p.ack; have := p.kind0; have := p.kind3
    rcases (show gi m 0 = 0 ∨ gi m 0 = 1 ∨ gi m 0 = 3 by omega) with q | q | q
    · have := (h0 q).1; omega
    · have := (h1 q).2.2.1; omega
    · have := (h3 q).2.1; omega
  have c4 : gl m 6 = [] := by have := no_of h; exact List.length_eq_zero_iff.1 (by omega)
  refine chk (fun h => msgB_false fun p => ?_) fun h => ?_
  · have hl := not_of h
    have h0 := p.ask; have h1 := p.vote; have h3 := p.ack; have := p.kind0; have := p.kind3
    rcases (show gi m 0 = 0 ∨ gi m 0 = 1 ∨ gi m 0 = 3 by omega) with q | q | q
    · exact hl (h0 q).2.1
    · exact hl (h1 q).2.2.2
    · exact hl (h3 q).2.2
  have c7 := of_not h
  clear h
  by_cases k1 : gi m 0 = 1
  · simp only [k1, decide_true, cond_true]
    refine chk (fun h => msgB_false fun p => not_of h (p.vote k1).1) fun h => ?_
    have p4 := of_not h
    refine chkT (fun h => msgB_false fun p => no_of h (p.vote k1).2.1) fun h5 => ?_
    exact short c4 c7 (yes_of h5) (.inl ⟨k1, p4⟩)
  simp only [k1, decide_false, cond_false]
  by_cases k3 : gi m 0 = 3
  · simp only [k3, decide_true, cond_true]
    refine chkT (fun h => msgB_false fun p => no_of h (p.ack k3).1) fun h5 => ?_
    exact short c4 c7 (yes_of h5) (.inr k3)
  simp only [k3, decide_false, cond_false]
  have k0 : gi m 0 = 0 := by omega
  refine chk (fun h => msgB_false fun p => by have := (p.ask k0).2.2; rw [h] at this; cases this) fun h8 => ?_
  refine chk (fun h => msgB_false fun p => not_of h ⟨p.prev0, p.prevM⟩) fun h => ?_
  have hprev := of_not h
  by_cases p0 : gi m 4 = 0
  · simp only [p0, decide_true, cond_true, show ¬ ((0 : Int) < 0) by decide, decide_false, cond_false]
    refine chk (fun h => msgB_false fun p => not_of h ((p.zero (.inl k0)).1 p0)) fun h => ?_
    have p5 := of_not h
    exact fin hprev (by omega) (by omega) (fun _ => ⟨by rw [c4]; rfl, c7, h8⟩) (by omega) (by omega) (by omega)
  · simp only [p0, decide_false, cond_false, show (0 : Int) < gi m 4 by omega, decide_true, cond_true]
    refine chk (fun h => msgB_false fun p => not_of h ⟨by have := p.zero (.inl k0); have := p.pt0; omega, p.ptT⟩) fun h => ?_
    have p5 := of_not h
    exact fin hprev (by omega) (by omega) (fun _ => ⟨by rw [c4]; rfl, c7, h8⟩) (by omega) (by omega) (by omega)
end Go.Eng.R
open Go Go.Eng
namespace Go.Eng.R
structure HOk (s : ND) : Prop where
  c : CandOk s
  t0 : 0 ≤ s.term
  t1 : s.term ≤ 100000
  sz : zS z_Item s.log ≤ 1048576
  nexts : s.role = 2 → ∀ i, i < s.votes.length → NextOk s.v i
  mts : s.role = 2 → ∀ i, i < s.mtch.length → 0 ≤ gi (rd s.mtch i) 0 ∧ gi (rd s.mtch i) 0 ≤ (s.log.length : Int)
theorem OwnOk.hOk {n : V} {k : Int} {s : ND} (h : OwnOk n k s) : HOk s := by
  obtain ⟨f0, f1, f2, f4, f5, f6, f7, f8, f9, f10⟩ := h.fields
  have hp := h.p; have hW := h.W; have hl := h.len; have hs := h.size
  have h8 := hp.lvotes; have h9 := hp.lnext; have h10 := hp.lmatch; have hk5 := hp.k5
  have c0 := hp.com0; have c1 := hp.com1; have i0 := hp.id0; have ik := hp.idk; have hle := hp.len; have t0 := hp.term0; have t1 := hp.term1
  refine ⟨⟨hW, by omega, by rw [f10]; omega, by rw [f9, f10]; omega, by rw [f8, f10]; omega, by rw [f10]; omega, by omega, by omega, by omega, by omega, h.nrm⟩, by omega, by omega, hs, fun h2 i hi => ?_, fun h2 i hi => ?_⟩
  · rw [f8] at hi
    obtain ⟨q1, q2, q3, q4⟩ := nextOk_of hp (by rw [← f5]; exact h2) (to := i) (by omega)
    refine ⟨?_, ?_, ?_, ?_⟩
    · show i < s.next.length; rw [f9]; exact q1
    · show 1 ≤ gi (rd s.next i) 0; rw [f9]; exact q2
    · show gi (rd s.next i) 0 ≤ ((s.log.length : Nat) : Int) + 1; rw [f9]; omega
    · show s.log.length ≤ 401; omega
  · have hi : i < (gl n 9).length := by rw [f10] at hi; omega
    have := List.all_eq_true.1 hp.cells i (List.mem_range.2 hi)
    simp only [cellB, show gi n 5 = 2 by omega, decide_true, cond_true, Bool.and_eq_true, decide_eq_true_eq] at this
    rw [f10]; omega
theorem fol_eq (s : ND) (t : Int) : s.fol t = { id := s.id, term := bif decide (s.term < t) then t else s.term, vote := bif decide (s.term < t) then -1 else s.vote, log := s.log, commit := s.commit, role := 0, lead := bif decide (s.term < t) then -1 else s.lead, wait := s.wait, votes := List.replicate s.votes.length (V.bool false), next := List.replicate s.next.length (V.int .i64 0), mtch := List.replicate s.mtch.length (V.int .i64 0) } := by
  unfold ND.fol; cases decide (s.term < t) <;> rfl
theorem HOk.fol {s : ND} (h : HOk s) {t : Int} (ht0 : 0 ≤ t) (ht1 : t ≤ 100000) : HOk (s.fol t) := by
  have hc := h.c; have hW := hc.W; have t0 := h.t0; have t1 := h.t1
  have i0 := hc.id0; have idn := hc.idn; have hn := hc.next; have hv := hc.votes; have hf := hc.few; have hl := hc.log; have c0 := hc.com0; have c1 := hc.com1; have hs := hc.size; have hz := h.sz
  rw [fol_eq]
  have e1 : ∀ (x y : Int), I64 x → I64 y → I64 (bif decide (s.term < t) then x else y) := fun x y hx hy => by cases decide (s.term < t) <;> assumption
  have ht : I64 t := ⟨by omega, by omega⟩
  refine ⟨⟨⟨hW.1, e1 _ _ ht hW.2.1, e1 _ _ I64_m1 hW.2.2.1, hW.2.2.2.1, hW.2.2.2.2.1, I64_0, e1 _ _ I64_m1 hW.2.2.2.2.2.2.1, hW.2.2.2.2.2.2.2.1, ?_, ?_, ?_⟩, i0, ?_, ?_, ?_, ?_, hl, c0, c1, hs, hc.nrm⟩, ?_, ?_, hz, ?_, ?_⟩
  · exact LW_rep' (w := W_bool) (x := V.bool false) trivial (by omega)
  · exact LW_rep' (w := W_int) (x := V.int .i64 0) I64_0 (by omega)
  · exact LW_rep' (w := W_int) (x := V.int .i64 0) I64_0 (by omega)
  · dsimp only; rw [List.length_replicate]; exact idn
  · dsimp only; rw [List.length_replicate, List.length_replicate]; exact hn
  · dsimp only; rw [List.length_replicate, List.length_replicate]; exact hv
  · dsimp only; rw [List.length_replicate]; exact hf
  · dsimp only; cases decide (s.term < t) <;> assumption
  · dsimp only; cases decide (s.term < t) <;> assumption
  · intro h2; cases h2
  · intro h2; cases h2
theorem HOk.stay {s : ND} (h : HOk s) : StepOk' s [] :=
  have hc := h.c; have hf := hc.few; have hn := hc.next; have hv := hc.votes; have hz := h.sz
  StepOk'.none hc.W hc.nrm (by omega) (by omega) (by omega) (by omega)
theorem impl_hear_fol {s : ND} {m : V} (h : s.term < gi m 3) : impl_server_hear (s.sv []) m = impl_server_hear ((s.fol (gi m 3)).sv []) m := by
  have hf := impl_follow_eq s [] (gi m 3)
  have ht : (s.fol (gi m 3)).term = gi m 3 := by rw [fol_eq, decide_eq_true h]; rfl
  unfold impl_server_hear
  rw [show gi (s.sv []) 1 = s.term from rfl, show gi ((s.fol (gi m 3)).sv []) 1 = (s.fol (gi m 3)).term from rfl, ht, decide_eq_true h, decide_eq_false (show ¬ gi m 3 < gi m 3 by omega)]
  simp only [cond_true, cond_false, show n_impl_server (s.sv []) = s.sv [] from rfl, hf, show gi ((s.fol (gi m 3)).sv []) 1 = gi m 3 from ht]
end Go.Eng.R
open Go Go.Eng
namespace Go.Eng.R
theorem impl_lastTerm_eq {s : ND} (hL : s.log.length ≤ 1000) : impl_Node_lastTerm s.v = some (termL s.log s.log.length) := by
  unfold impl_Node_lastTerm
  have := impl_termAt_eq (n := s.v) (p := s.log.length) (show s.log.length ≤ _ by omega) (by omega)
  rw [show gl s.v 3 = s.log from rfl, this]; rfl
def freshB (s : ND) (m : V) : Bool := decide (termL s.log s.log.length < gi m 5) || (decide (gi m 5 = termL s.log s.log.length) && decide (((s.log.length : Nat) : Int) ≤ gi m 4))
theorem impl_newer_eq {s : ND} (hL : s.log.length ≤ 1000) (m : V) : impl_Node_newer s.v (gi m 4) (gi m 5) = some (freshB s m) := by
  unfold impl_Node_newer freshB
  rw [show n_impl_Node s.v = s.v from rfl, impl_lastTerm_eq hL, show gl s.v 3 = s.log from rfl]
  simp only [Option.bind_some]
  cases decide (termL s.log s.log.length < gi m 5) <;> cases decide (gi m 5 = termL s.log s.log.length) <;> rfl
def yesB (s : ND) (m : V) : Bool := decide (gi m 3 = s.term) && (decide (s.role = 0) && ((decide (s.vote = -1) || decide (s.vote = gi m 1)) && freshB s m))
def ansM (k : Int) (s : ND) (to prev : Int) (y : Bool) : V := V.agg [(V.int .i64 k), (V.int .i64 s.id), (V.int .i64 to), (V.int .i64 s.term), (V.int .i64 prev), (V.int .i64 0), (V.inl t_impl_Item []), (V.int .i64 0), (V.bool y)]
def askR (s : ND) (m : V) : ND × List V := (bif yesB s m then { s with vote := gi m 1, wait := 0 } else s, [ansM 1 s (gi m 1) 0 (yesB s m)])
theorem room1 : ((roomy (([] : List V).length + 1) 88) && true) = true := by rfl
theorem impl_hear_ask {s : ND} {m : V} (h : HOk s) (hk : gi m 0 = 0) (ht : ¬ s.term < gi m 3) : impl_server_hear (s.sv []) m = some ((askR s m).1.sv (askR s m).2) := by
  have hl := h.c.log
  have en := impl_newer_eq (s := s) (by omega) m
  unfold impl_server_hear
  rw [show gi (s.sv []) 1 = s.term from rfl, decide_eq_false ht, hk]
  simp only [cond_false, decide_true, cond_true, show gi (s.sv []) 5 = s.role from rfl, show gi (s.sv []) 2 = s.vote from rfl, show gl (s.sv []) 11 = [] from rfl, show n_impl_Node (s.sv []) = s.v from rfl, en, Option.bind_some, room1]
  unfold askR yesB
  cases decide (gi m 3 = s.term) with
  | false => rfl
  | true =>
    cases decide (s.role = 0) with
    | false => rfl
    | true =>
      cases decide (s.vote = -1) with
      | true => cases freshB s m <;> rfl
      | false =>
        cases decide (s.vote = gi m 1) with
        | false => rfl
        | true => cases freshB s m <;> rfl
theorem ansM_ok {s : ND} (hW : W_Node s.v) {k to prev : Int} (hk : I64 k) (hto : I64 to) (hp : I64 prev) (y : Bool) : W_Msg (ansM k s to prev y) :=
  ⟨hk, hW.1, hto, hW.2.1, hp, I64_0, LW.nil, I64_0, trivial⟩
theorem StepOk'.ans {s' s : ND} (h : StepOk' s' []) (hW : W_Node s.v) {k to prev : Int} (hk : I64 k) (hto : I64 to) (hp : I64 prev) (y : Bool) : StepOk' s' [ansM k s to prev y] := by
  refine ⟨h.W, h.nrm, h.size, h.votes, h.next, h.mtch, rfl, by simp, ?_, ⟨by simp, ?_⟩, ?_⟩
  · intro m hm
    obtain rfl := List.mem_singleton.1 hm
    exact ⟨LW.nil, by show zS z_Item [] ≤ _; simp [zS, sumL]⟩
  · intro m hm
    obtain rfl := List.mem_singleton.1 hm
    exact ansM_ok hW hk hto hp y
  · simp only [sumL]
    show 1 + 1 + 1 + 1 + 1 + 1 + sumL c_Item [] + 1 + 1 + 0 ≤ _
    simp [sumL]
theorem HOk.ask {s : ND} (h : HOk s) {m : V} (hm : W_Msg m) : StepOk' (askR s m).1 (askR s m).2 := by
  have hc := h.c; have hf := hc.few; have hn := hc.next; have hv := hc.votes; have hz := h.sz; have hW := hc.W
  refine StepOk'.ans ?_ hW ⟨by decide, by decide⟩ hm.2.1 I64_0 _
  unfold askR
  cases yesB s m with
  | false => exact h.stay
  | true =>
    refine StepOk'.none ⟨hW.1, hW.2.1, hm.2.1, hW.2.2.2.1, hW.2.2.2.2.1, hW.2.2.2.2.2.1, hW.2.2.2.2.2.2.1, I64_0, hW.2.2.2.2.2.2.2.2.1, hW.2.2.2.2.2.2.2.2.2.1, hW.2.2.2.2.2.2.2.2.2.2⟩ hc.nrm ?_ ?_ ?_ ?_
    · show zS z_Item s.log ≤ _; omega
    · show s.votes.length ≤ 5; omega
    · show s.next.length ≤ 5; omega
    · show s.mtch.length ≤ 5; omega
def elect (s : ND) (m : V) : ND := { s with votes := s.votes.set (gi m 1).toNat (V.bool true) }
def voteR (s : ND) (m : V) : ND × List V :=
  bif decide (s.role = 1) && (decide (gi m 3 = s.term) && gb m 8) then (bif mostB (elect s m) then (elect s m).lead'.adv else elect s m, bif mostB (elect s m) then msgsN (elect s m).lead'.adv.v (elect s m).votes.length else []) else (s, [])
theorem HOk.elect {s : ND} (h : HOk s) (m : V) : CandOk (elect s m) := by
  have hc := h.c; have hW := hc.W
  refine ⟨⟨hW.1, hW.2.1, hW.2.2.1, hW.2.2.2.1, hW.2.2.2.2.1, hW.2.2.2.2.2.1, hW.2.2.2.2.2.2.1, hW.2.2.2.2.2.2.2.1, LW_set (w := W_bool) hW.2.2.2.2.2.2.2.2.1 trivial _, hW.2.2.2.2.2.2.2.2.2.1, hW.2.2.2.2.2.2.2.2.2.2⟩, hc.id0, hc.idn, hc.next, ?_, hc.few, hc.log, hc.com0, hc.com1, hc.size, hc.nrm⟩
  show (s.votes.set _ _).length = _
  rw [List.length_set]; exact hc.votes
theorem impl_hear_vote {s : ND} {m : V} (h : HOk s) (hk : gi m 0 = 1) (ht : ¬ s.term < gi m 3) (hm0 : 0 ≤ gi m 1) (hm : gi m 1 < (s.votes.length : Int)) : impl_server_hear (s.sv []) m = some ((voteR s m).1.sv (voteR s m).2) := by
  have hix : idxOk (gi m 1) s.votes.length = true := by
    rw [show gi m 1 = (((gi m 1).toNat : Nat) : Int) by omega]; exact idxOk_nat (by omega)
  have li := impl_lead_eq (h.elect m) (out := []) (by simp)
  unfold impl_server_hear
  rw [show gi (s.sv []) 1 = s.term from rfl, decide_eq_false ht, hk]
  simp only [cond_false, decide_true, cond_true, show ¬ ((1 : Int) = 0) by decide, decide_false, show gi (s.sv []) 5 = s.role from rfl, show gl (s.sv []) 8 = s.votes from rfl, hix, Nat.zero_add]
  unfold voteR
  cases decide (s.role = 1) with
  | false => rfl
  | true =>
    cases decide (gi m 3 = s.term) with
    | false => rfl
    | true =>
      cases gb m 8 with
      | false => rfl
      | true =>
        refine Eq.trans (congrArg (fun o => Option.bind o _) (show _ = some _ from li)) ?_
        cases mostB (elect s m) <;> rfl
theorem HOk.vote {s : ND} (h : HOk s) (m : V) : StepOk' (voteR s m).1 (voteR s m).2 := by
  unfold voteR
  cases decide (s.role = 1) && (decide (gi m 3 = s.term) && gb m 8) with
  | false => exact h.stay
  | true => exact StepOk'.cand (h.elect m)
end Go.Eng.R
open Go Go.Eng
namespace Go.Eng.R
theorem scanC_ge (s : ND) (c : Nat) : ∀ j, c ≤ scanC s c j
  | 0 => Nat.le_refl _
  | j + 1 => by
    have := scanC_ge s c j
    simp only [scanC]
    cases (decide (termL s.log (c + (j + 1)) = s.term) && decide ((s.votes.length : Int) < 2 * ((cntGe (((c + (j + 1) : Nat)) : Int) s.mtch : Nat) : Int))) <;> simp <;> omega
theorem adv_commit {s : ND} (h : 0 ≤ s.commit) : s.commit ≤ s.adv.commit := by
  have := scanC_ge s.mark s.commit.toNat (s.log.length - s.commit.toNat)
  show s.commit ≤ ((scanC s.mark s.commit.toNat (s.log.length - s.commit.toNat) : Nat) : Int)
  omega
def ND.setN (s : ND) (j : Nat) (k : Int) : ND := { s with next := s.next.set j (V.int .i64 k) }
def ND.got (s : ND) (j : Nat) (p : Int) : ND := { s with next := s.next.set j (V.int .i64 (p + 1)), mtch := s.mtch.set j (V.int .i64 p) }
def backR (s : ND) (j : Nat) (k : Int) : ND × List V := bif decide (gi (rd s.mtch j) 0 < k) then (s.setN j k, [addN (s.setN j k).v j]) else (s, [])
def gotR (s : ND) (j : Nat) (p : Int) : ND × List V :=
  bif !decide ((s.got j p).adv.commit = s.commit) then ((s.got j p).adv, msgsN (s.got j p).adv.v s.votes.length)
  else bif decide (gi (rd (s.got j p).adv.next j) 0 ≤ ((s.log.length : Nat) : Int)) then ((s.got j p).adv, [addN (s.got j p).adv.v j])
  else ((s.got j p).adv, [])
def ackR (s : ND) (m : V) (j : Nat) : ND × List V :=
  bif !decide (s.role = 2) then (s, [])
  else bif !decide (gi m 3 = s.term) then (s, [])
  else bif !gb m 8 then backR s j (mxI 1 (mnI (gi (rd s.next j) 0 - 1) (gi m 4 + 1)))
  else bif decide (((s.log.length : Nat) : Int) < gi m 4) then (s, [])
  else bif decide (gi m 4 ≤ gi (rd s.mtch j) 0) then (s, [])
  else gotR s j (gi m 4)
theorem rd_set_eq {l : List V} {j : Nat} (h : j < l.length) (x : V) : rd (l.set j x) j = x := by simp [rd, List.getD, h]
theorem HOk.setN {s : ND} (h : HOk s) (h2 : s.role = 2) {j : Nat} (hj : j < s.votes.length) {k : Int} (k1 : 1 ≤ k) (k2 : k ≤ (s.log.length : Int) + 1) : W_Node (s.setN j k).v ∧ NextOk (s.setN j k).v j := by
  have hc := h.c; have hW := hc.W; have hl := hc.log; have hn := hc.next; have hv := hc.votes
  have hjn : j < s.next.length := by omega
  refine ⟨⟨hW.1, hW.2.1, hW.2.2.1, hW.2.2.2.1, hW.2.2.2.2.1, hW.2.2.2.2.2.1, hW.2.2.2.2.2.2.1, hW.2.2.2.2.2.2.2.1, hW.2.2.2.2.2.2.2.2.1, LW_set (w := W_int) hW.2.2.2.2.2.2.2.2.2.1 ⟨by show (-9223372036854775808 : Int) ≤ k; omega, by show k ≤ 9223372036854775807; omega⟩ _, hW.2.2.2.2.2.2.2.2.2.2⟩, ?_, ?_, ?_, ?_⟩
  · show j < (s.next.set j _).length; rw [List.length_set]; exact hjn
  · show 1 ≤ gi (rd (s.next.set j (V.int .i64 k)) j) 0; rw [rd_set_eq hjn]; exact k1
  · show gi (rd (s.next.set j (V.int .i64 k)) j) 0 ≤ ((s.log.length : Nat) : Int) + 1; rw [rd_set_eq hjn]; exact k2
  · show s.log.length ≤ 401; omega
theorem step_one {s : ND} (h : StepOk' s []) {j : Nat} (hN : NextOk s.v j) (hj : j ≤ 1000) : StepOk' s [addN s.v j] := by
  have hz := h.size; have hW := h.W
  have h6 := itemsN_z (n := s.v) (prevN s.v j)
  have hz' : zS z_Item (gl s.v 3) ≤ 3000000 := hz
  refine ⟨h.W, h.nrm, h.size, h.votes, h.next, h.mtch, by simp [ownM_addN], by simp, ?_, ⟨by simp, ?_⟩, ?_⟩
  · intro m hm
    obtain rfl := List.mem_singleton.1 hm
    exact ⟨itemsN_W hW _, by show zS z_Item (itemsN s.v (prevN s.v j)) ≤ _; omega⟩
  · intro m hm
    obtain rfl := List.mem_singleton.1 hm
    exact addN_W hW hN (by omega)
  · have := addN_c (n := s.v) (to := j) (by show zS z_Item s.log ≤ _; omega)
    simp only [sumL]; omega
theorem HOk.got {s : ND} (h : HOk s) (h2 : s.role = 2) {j : Nat} (hj : j < s.votes.length) {p : Int} (p0 : 0 ≤ p) (p1 : p ≤ (s.log.length : Int)) : LeadOk (s.got j p) := by
  have hc := h.c; have hW := hc.W; have hl := hc.log; have hn := hc.next; have hv := hc.votes; have hf := hc.few
  have hjn : j < s.next.length := by omega
  refine ⟨⟨hW.1, hW.2.1, hW.2.2.1, hW.2.2.2.1, hW.2.2.2.2.1, hW.2.2.2.2.2.1, hW.2.2.2.2.2.2.1, hW.2.2.2.2.2.2.2.1, hW.2.2.2.2.2.2.2.2.1, LW_set (w := W_int) hW.2.2.2.2.2.2.2.2.2.1 ⟨by show (-9223372036854775808 : Int) ≤ p + 1; omega, by show p + 1 ≤ 9223372036854775807; omega⟩ _, LW_set (w := W_int) hW.2.2.2.2.2.2.2.2.2.2 ⟨by show (-9223372036854775808 : Int) ≤ p; omega, by show p ≤ 9223372036854775807; omega⟩ _⟩, hc.id0, ?_, ?_, ?_, ?_, by show s.log.length ≤ 401; omega, hc.com0, hc.com1, by have := hc.size; show zS z_Item s.log ≤ _; omega, fun i hi hne => ?_⟩
  · show s.id < (((s.mtch.set j _).length : Nat) : Int); rw [List.length_set]; exact hc.idn
  · show (s.next.set j _).length = (s.mtch.set j _).length; rw [List.length_set, List.length_set]; exact hn
  · show s.votes.length = (s.mtch.set j _).length; rw [List.length_set]; exact hv
  · show (s.mtch.set j _).length ≤ 5; rw [List.length_set]; exact hf
  · by_cases e : i = j
    · subst e
      refine ⟨?_, ?_, ?_, ?_⟩
      · show i < (s.next.set i _).length; rw [List.length_set]; exact hjn
      · show 1 ≤ gi (rd (s.next.set i (V.int .i64 (p + 1))) i) 0; rw [rd_set_eq hjn]; show 1 ≤ p + 1; omega
      · show gi (rd (s.next.set i (V.int .i64 (p + 1))) i) 0 ≤ ((s.log.length : Nat) : Int) + 1; rw [rd_set_eq hjn]; show p + 1 ≤ _; omega
      · show s.log.length ≤ 401; omega
    · obtain ⟨q1, q2, q3, q4⟩ := h.nexts h2 i hi
      refine ⟨?_, ?_, ?_, ?_⟩
      · show i < (s.next.set j _).length; rw [List.length_set]; exact q1
      · show 1 ≤ gi (rd (s.next.set j (V.int .i64 (p + 1))) i) 0; rw [rd_set_ne e]; exact q2
      · show gi (rd (s.next.set j (V.int .i64 (p + 1))) i) 0 ≤ ((s.log.length : Nat) : Int) + 1; rw [rd_set_ne e]; exact q3
      · exact q4
theorem kback {s : ND} (h : HOk s) (h2 : s.role = 2) {j : Nat} (hj : j < s.votes.length) {p : Int} (p0 : 0 ≤ p) : 1 ≤ mxI 1 (mnI (gi (rd s.next j) 0 - 1) (p + 1)) ∧ mxI 1 (mnI (gi (rd s.next j) 0 - 1) (p + 1)) ≤ (s.log.length : Int) + 1 := by
  obtain ⟨q1, q2, q3, q4⟩ := h.nexts h2 j hj
  have q2 : 1 ≤ gi (rd s.next j) 0 := q2
  have q3 : gi (rd s.next j) 0 ≤ (s.log.length : Int) + 1 := q3
  unfold mxI mnI
  split <;> split <;> omega
theorem HOk.ackOk {s : ND} (h : HOk s) {m : V} (hp : MsgP m) {j : Nat} (hj : j < s.votes.length) (hne : (j : Int) ≠ s.id) : StepOk' (ackR s m j).1 (ackR s m j).2 := by
  have hc := h.c; have hf := hc.few; have hv := hc.votes; have hn := hc.next; have hz := h.sz
  unfold ackR
  by_cases h2 : s.role = 2
  case neg => rw [decide_eq_false h2]; exact h.stay
  rw [decide_eq_true h2]
  cases decide (gi m 3 = s.term) with
  | false => exact h.stay
  | true =>
    cases gb m 8 with
    | false =>
      obtain ⟨k1, k2⟩ := kback h h2 hj (p := gi m 4) hp.prev0
      show StepOk' (backR s j _).1 (backR s j _).2
      unfold backR
      cases decide (gi (rd s.mtch j) 0 < mxI 1 (mnI (gi (rd s.next j) 0 - 1) (gi m 4 + 1))) with
      | false => exact h.stay
      | true =>
        obtain ⟨w1, w2⟩ := h.setN h2 hj k1 k2
        refine step_one (StepOk'.none w1 hc.nrm ?_ ?_ ?_ ?_) w2 (by omega)
        · show zS z_Item s.log ≤ _; omega
        · show s.votes.length ≤ 5; omega
        · show (s.next.set j _).length ≤ 5; rw [List.length_set]; omega
        · show s.mtch.length ≤ 5; omega
    | true =>
      by_cases hl : ((s.log.length : Nat) : Int) < gi m 4
      · rw [decide_eq_true hl]; exact h.stay
      · rw [decide_eq_false hl]
        cases decide (gi m 4 ≤ gi (rd s.mtch j) 0) with
        | true => exact h.stay
        | false =>
          have hL := h.got h2 hj (p := gi m 4) hp.prev0 (by omega)
          have hS := StepOk'.led hL hc.nrm (by show zS z_Item s.log ≤ _; omega)
          show StepOk' (gotR s j (gi m 4)).1 (gotR s j (gi m 4)).2
          have hS0 : StepOk' (s.got j (gi m 4)).adv [] := StepOk'.none hS.W hS.nrm hS.size hS.votes hS.next hS.mtch
          unfold gotR
          cases decide ((s.got j (gi m 4)).adv.commit = s.commit) with
          | false => exact hS
          | true =>
            cases decide (gi (rd (s.got j (gi m 4)).adv.next j) 0 ≤ ((s.log.length : Nat) : Int)) with
            | false => exact hS0
            | true => exact step_one hS0 (hL.adv.2 j hj hne) (by omega)
theorem impl_ack_eq {s : ND} (h : HOk s) {m : V} (hp : MsgP m) {j : Nat} (hj : j < s.votes.length) (hne : (j : Int) ≠ s.id) (hm : gi m 1 = (j : Int)) : impl_server_ack (s.sv []) m = some ((ackR s m j).1.sv (ackR s m j).2) := by
  have hc := h.c; have hf := hc.few; have hv := hc.votes; have hn := hc.next; have hl := hc.log; have hz := h.sz
  have i9 : idxOk (j : Int) s.next.length = true := idxOk_nat (by omega)
  have i10 : idxOk (j : Int) s.mtch.length = true := idxOk_nat (by omega)
  have p0 := hp.prev0; have pM := hp.prevM
  unfold impl_server_ack ackR
  simp only [hm, show gi (s.sv []) 5 = s.role from rfl, show gi (s.sv []) 1 = s.term from rfl, show gl (s.sv []) 9 = s.next from rfl, show gl (s.sv []) 10 = s.mtch from rfl, show gl (s.sv []) 3 = s.log from rfl, i9, i10, cond_true, Nat.zero_add, Int.toNat_natCast]
  by_cases h2 : s.role = 2
  case neg => rw [decide_eq_false h2]; rfl
  rw [decide_eq_true h2]
  obtain ⟨q1, q2, q3, q4⟩ := h.nexts h2 j hj
  have q2 : 1 ≤ gi (rd s.next j) 0 := q2
  have q3 : gi (rd s.next j) 0 ≤ (s.log.length : Int) + 1 := q3
  rw [wr64' (n := gi m 4 + 1) (by omega) (by omega), wr64' (n := gi (rd s.next j) 0 - 1) (by omega) (by omega)]
  cases decide (gi m 3 = s.term) with
  | false => rfl
  | true =>
    cases gb m 8 with
    | false =>
      obtain ⟨k1, k2⟩ := kback h h2 hj (p := gi m 4) hp.prev0
      obtain ⟨w1, w2⟩ := h.setN h2 hj k1 k2
      have es := impl_send_eq (s := s.setN j (mxI 1 (mnI (gi (rd s.next j) 0 - 1) (gi m 4 + 1)))) (out := []) w1 (by show zS z_Item s.log ≤ _; omega) w2 (by simp)
      simp only [Bool.not_true, Bool.not_false, cond_false, cond_true, backR]
      cases decide (gi (rd s.mtch j) 0 < mxI 1 (mnI (gi (rd s.next j) 0 - 1) (gi m 4 + 1))) with
      | false => rfl
      | true => exact Eq.trans (congrArg (fun o => Option.bind o _) (show _ = some _ from es)) rfl
    | true =>
      by_cases hl' : ((s.log.length : Nat) : Int) < gi m 4
      · rw [decide_eq_true hl']; rfl
      rw [decide_eq_false hl']
      cases decide (gi m 4 ≤ gi (rd s.mtch j) 0) with
      | true => rfl
      | false =>
        have hL := h.got h2 hj (p := gi m 4) hp.prev0 (by omega)
        have ea := impl_advance_eq (s := s.got j (gi m 4)) (out := []) hL.id0 hL.idn hL.next hL.votes (by have := hL.few; omega) (by have := hL.log; omega) hL.com0 hL.com1
        have eA := impl_sendAll_eq (s := (s.got j (gi m 4)).adv) (out := []) hL.adv.1 hL.size (show s.votes.length ≤ 1000 by omega) hL.adv.2 (by simp)
        have eS := impl_send_eq (s := (s.got j (gi m 4)).adv) (out := []) hL.adv.1 hL.size (hL.adv.2 j hj hne) (by simp)
        simp only [Bool.not_true, cond_false]
        refine Eq.trans (congrArg (fun o => Option.bind o _) (show _ = some ((s.got j (gi m 4)).adv.sv []) from ea)) ?_
        have i9' : idxOk (j : Int) (s.got j (gi m 4)).adv.next.length = true := by
          refine idxOk_nat ?_
          show j < (((s.next.set j _).set _ _).length)
          rw [List.length_set, List.length_set]; omega
        simp only [Option.bind_some, show gi ((s.got j (gi m 4)).adv.sv []) 4 = (s.got j (gi m 4)).adv.commit from rfl, show gl ((s.got j (gi m 4)).adv.sv []) 9 = (s.got j (gi m 4)).adv.next from rfl, show gl ((s.got j (gi m 4)).adv.sv []) 3 = s.log from rfl, show gi (s.sv []) 4 = s.commit from rfl, i9', cond_true, show n_impl_server ((s.got j (gi m 4)).adv.sv []) = (s.got j (gi m 4)).adv.sv [] from rfl, eA, eS]
        unfold gotR
        cases decide ((s.got j (gi m 4)).adv.commit = s.commit) with
        | false => rfl
        | true => cases decide (gi (rd (s.got j (gi m 4)).adv.next j) 0 ≤ ((s.log.length : Nat) : Int)) <;> rfl
end Go.Eng.R
open Go Go.Eng
namespace Go.Eng.R
theorem impl_cmdOwn_eq {c : V} (h3 : (gl c 3).length ≤ 4000000) (h4 : (gl c 4).length ≤ 4000000) : impl_Cmd_own (n_impl_Cmd c) = some (n_impl_Cmd c) := by
  unfold impl_Cmd_own impl_Op_own
  simp only [gl_c0, gl_cs, gi_c0, gi_cs, show gl (n_impl_Cmd c) 3 = gl c 3 from rfl, show gl (n_impl_Cmd c) 4 = gl c 4 from rfl, impl_clone_eq h3, impl_clone_eq h4, Option.bind_some]
  rfl
def stepC (f : ND) (items : List V) (p i : Nat) : Bool := !(decide (((p + i : Nat) : Int) < f.commit)) || decide (gi (rd f.log (p + i)) 0 = gi (rd items i) 0)
def takeS (items : List V) (p : Nat) (log : List V) : Nat → List V
  | 0 => log
  | i + 1 =>
    bif decide (p + i < (takeS items p log i).length) then
      bif decide (gi (rd (takeS items p log i) (p + i)) 0 = gi (rd items i) 0) then takeS items p log i
      else (takeS items p log i).take (p + i) ++ [n_impl_Item (rd items i)]
    else takeS items p log i ++ [n_impl_Item (rd items i)]
theorem takeS_len {items : List V} {p : Nat} {log : List V} (hp : p ≤ log.length) : ∀ i, p + i ≤ (takeS items p log i).length ∧ (takeS items p log i).length ≤ max log.length (p + i)
  | 0 => ⟨hp, Nat.le_max_left _ _⟩
  | i + 1 => by
    obtain ⟨h1, h2⟩ := takeS_len (items := items) hp i
    simp only [takeS]
    by_cases c : p + i < (takeS items p log i).length
    · rw [decide_eq_true c]
      by_cases e : gi (rd (takeS items p log i) (p + i)) 0 = gi (rd items i) 0
      · rw [decide_eq_true e]
        exact ⟨by show p + (i + 1) ≤ (takeS items p log i).length; omega, by show (takeS items p log i).length ≤ _; omega⟩
      · rw [decide_eq_false e]
        simp only [cond_true, cond_false, List.length_append, List.length_take, List.length_singleton]
        omega
    · rw [decide_eq_false c]
      simp only [cond_false, List.length_append, List.length_singleton]
      omega
theorem zS_take (z : V → Nat) (l : List V) (i : Nat) : zS z (l.take i) ≤ zS z l := by
  have := sumL_take_le z l i
  simp only [zS, List.length_take]; omega
theorem zS_rd {z : V → Nat} {l : List V} {i : Nat} (h : i < l.length) : zS z (l.take (i + 1)) = zS z (l.take i) + (1 + z (rd l i)) := by
  rw [take_rd h, zS_append]
  simp [zS, sumL]
theorem takeS_z {items : List V} {p : Nat} {log : List V} : ∀ i, i ≤ items.length → zS z_Item (takeS items p log i) ≤ zS z_Item log + zS z_Item (items.take i)
  | 0, _ => by simp [takeS]
  | i + 1, h => by
    have ih := takeS_z (items := items) (p := p) (log := log) i (by omega)
    have e := zS_rd (z := z_Item) (l := items) (i := i) (by omega)
    have ez : zS z_Item [n_impl_Item (rd items i)] = 1 + z_Item (rd items i) := by simp [zS, sumL]; rfl
    have ht := zS_take z_Item (takeS items p log i) (p + i)
    simp only [takeS]
    cases decide (p + i < (takeS items p log i).length) with
    | true =>
      cases decide (gi (rd (takeS items p log i) (p + i)) 0 = gi (rd items i) 0) with
      | true => show zS z_Item (takeS items p log i) ≤ _; omega
      | false => show zS z_Item ((takeS items p log i).take (p + i) ++ [n_impl_Item (rd items i)]) ≤ _; rw [zS_append, ez]; omega
    | false => show zS z_Item (takeS items p log i ++ [n_impl_Item (rd items i)]) ≤ _; rw [zS_append, ez]; omega
theorem takeS_W {items : List V} {p : Nat} {log : List V} (hi : LW W_Item items) (hl : LW W_Item log) (hp : p ≤ log.length) (hb : log.length ≤ 1000) (hpb : p + items.length ≤ 1000) : ∀ i, i ≤ items.length → LW W_Item (takeS items p log i)
  | 0, _ => hl
  | i + 1, h => by
    have ih := takeS_W hi hl hp hb hpb i (by omega)
    obtain ⟨h1, h2⟩ := takeS_len (items := items) hp i
    have hx : W_Item (n_impl_Item (rd items i)) := hi.rd (i := i) (by omega)
    simp only [takeS]
    cases decide (p + i < (takeS items p log i).length) with
    | true =>
      cases decide (gi (rd (takeS items p log i) (p + i)) 0 = gi (rd items i) 0) with
      | true => exact ih
      | false =>
        refine ⟨?_, fun y hy => ?_⟩
        · show ((takeS items p log i).take (p + i) ++ [n_impl_Item (rd items i)]).length ≤ _
          rw [List.length_append, List.length_take, List.length_singleton]; omega
        · rcases List.mem_append.1 (show y ∈ (takeS items p log i).take (p + i) ++ [n_impl_Item (rd items i)] from hy) with hy | hy
          · exact ih.2 y (List.mem_of_mem_take hy)
          · obtain rfl := List.mem_singleton.1 hy
            exact hx
    | false =>
      refine ⟨?_, fun y hy => ?_⟩
      · show (takeS items p log i ++ [n_impl_Item (rd items i)]).length ≤ _
        rw [List.length_append, List.length_singleton]; omega
      · rcases List.mem_append.1 (show y ∈ takeS items p log i ++ [n_impl_Item (rd items i)] from hy) with hy | hy
        · exact ih.2 y hy
        · obtain rfl := List.mem_singleton.1 hy
          exact hx
theorem nrm_take {l : List V} (h : Nrm l) (i : Nat) : Nrm (l.take i) := by unfold Nrm at *; rw [List.map_take, h]
theorem takeS_nrm {items : List V} {p : Nat} {log : List V} (h : Nrm log) : ∀ i, Nrm (takeS items p log i)
  | 0 => h
  | i + 1 => by
    have ih := takeS_nrm (items := items) (p := p) h i
    have hx : Nrm [n_impl_Item (rd items i)] := rfl
    simp only [takeS]
    cases decide (p + i < (takeS items p log i).length) with
    | true =>
      cases decide (gi (rd (takeS items p log i) (p + i)) 0 = gi (rd items i) 0) with
      | true => exact ih
      | false => exact nrm_append (nrm_take ih _) hx
    | false => exact nrm_append ih hx
theorem impl_chk_run {f : ND} {m : V} {out : List V} {p : Nat} (hp : gi m 4 = (p : Int)) (hpb : p ≤ 400) (hi : (gl m 6).length ≤ 4) (hL : f.log.length ≤ 1000) (hc : f.commit ≤ (f.log.length : Int)) :
    impl_server_add_l10 ((gl m 6).length + 1) (gl m 6) (((gl m 6).length : Nat) : Int) 0 (f.b 2 3 4 5 6) (n_impl_Msg m) f.log f.votes f.next f.mtch out =
      bif (List.range (gl m 6).length).all (stepC f (gl m 6) p) then some (1, 0, false, f.b 2 3 4 5 6, n_impl_Msg m, f.log, f.votes, f.next, f.mtch, out) else some (0, f.commit, false, f.b 2 3 4 5 6, n_impl_Msg m, f.log, f.votes, f.next, f.mtch, out) := by
  refine all_range (F := fun k i => impl_server_add_l10 k (gl m 6) (((gl m 6).length : Nat) : Int) i (f.b 2 3 4 5 6) (n_impl_Msg m) f.log f.votes f.next f.mtch out) (fun k i hi' => ?_) (fun k => ?_)
  · show impl_server_add_l10 (k + 1) _ _ (i : Int) _ _ _ _ _ _ _ = _
    rw [impl_server_add_l10]
    have e1 : IntKind.i64.wrap (IntKind.i64.wrap ((p : Int) + 1) + (i : Int)) = ((p + i + 1 : Nat) : Int) := by rw [wr64' (n := (p : Int) + 1) (by omega) (by omega), wr64' (by omega) (by omega)]; omega
    have et := impl_termAt_eq (n := f.v) (p := p + i + 1) (show f.log.length ≤ _ by omega) (by omega)
    have et' : impl_Node_termAt (V.agg [(V.int .i64 f.id), (V.int .i64 f.term), (V.int .i64 f.vote), (V.inl t_impl_Item f.log), (V.int .i64 f.commit), (V.int .i64 f.role), (V.int .i64 f.lead), (V.int .i64 f.wait), (V.inl t_bool f.votes), (V.inl t_int' f.next), (V.inl t_int' f.mtch)]) ((p + i + 1 : Nat) : Int) = some (termL f.log (p + i + 1)) := et
    simp only [show gi (n_impl_Msg m) 4 = gi m 4 from rfl, hp, e1, ND.b, gi_c0, gi_cs, lt_nat hi', idxOk_nat hi', Int.toNat_natCast, cond_true, et', Option.bind_some, wr_succ hi' (show (gl m 6).length ≤ 9223372036854775807 by omega)]
    unfold stepC
    by_cases h : ((p + i + 1 : Nat) : Int) ≤ f.commit
    · rw [decide_eq_true h, decide_eq_true (show ((p + i : Nat) : Int) < f.commit by omega)]
      have e2 : termL f.log (p + i + 1) = gi (rd f.log (p + i)) 0 := by
        unfold termL; rw [decide_eq_true (show 1 ≤ p + i + 1 ∧ p + i + 1 ≤ f.log.length by omega)]; rfl
      rw [e2]
      cases decide (gi (rd f.log (p + i)) 0 = gi (rd (gl m 6) i) 0) <;> rfl
    · rw [decide_eq_false h, decide_eq_false (show ¬ ((p + i : Nat) : Int) < f.commit by omega)]; rfl
  · show impl_server_add_l10 (k + 1) _ _ _ _ _ _ _ _ _ _ = _
    rw [impl_server_add_l10, lt_self]; rfl
theorem impl_take_run {f : ND} {m : V} {out : List V} {p : Nat} (hp : gi m 4 = (p : Int)) (hpl : p ≤ f.log.length) (hi : (gl m 6).length ≤ 4) (hL : f.log.length ≤ 1000) (hz : zS z_Item (gl m 6) ≤ 4000000) :
    impl_server_add_l18 ((gl m 6).length + 1) (p : Int) (gl m 6) (((gl m 6).length : Nat) : Int) 0 (f.b 2 3 4 5 6) (n_impl_Msg m) f.log f.votes f.next f.mtch out =
      some (((p + (gl m 6).length : Nat) : Int), f.b 2 3 4 5 6, n_impl_Msg m, takeS (gl m 6) p f.log (gl m 6).length, f.votes, f.next, f.mtch, out) := by
  obtain ⟨-, hzi⟩ := z_item_le hz
  refine loop_run0 (F := fun k (r : Int × List V) i => impl_server_add_l18 k r.1 (gl m 6) (((gl m 6).length : Nat) : Int) i (f.b 2 3 4 5 6) (n_impl_Msg m) r.2 f.votes f.next f.mtch out) (n := (gl m 6).length) (fun i r => r = (((p + i : Nat) : Int), takeS (gl m 6) p f.log i)) (fun o => o = some (((p + (gl m 6).length : Nat) : Int), f.b 2 3 4 5 6, n_impl_Msg m, takeS (gl m 6) p f.log (gl m 6).length, f.votes, f.next, f.mtch, out)) ?_ ?_ (s := ((p : Int), f.log)) rfl
  · intro k i r hi' hI
    subst hI
    obtain ⟨h1, h2⟩ := takeS_len (items := gl m 6) hpl i
    refine .inl ⟨(((p + (i + 1) : Nat) : Int), takeS (gl m 6) p f.log (i + 1)), ?_, rfl⟩
    show impl_server_add_l18 (k + 1) _ _ _ (i : Int) _ _ _ _ _ _ _ = impl_server_add_l18 k _ _ _ _ _ _ _ _ _ _ _
    rw [impl_server_add_l18]
    have e1 : IntKind.i64.wrap (((p + i : Nat) : Int) + 1) = ((p + i + 1 : Nat) : Int) := by rw [wr64' (by omega) (by omega)]; omega
    have e2 : IntKind.i64.wrap (((p + i + 1 : Nat) : Int) - 1) = ((p + i : Nat) : Int) := by rw [wr64' (by omega) (by omega)]; omega
    have ho : impl_Cmd_own (V.agg [(V.int .i64 (gi (rd (gl m 6) i) 1)), (V.int .i64 (gi (rd (gl m 6) i) 2)), (V.int .i64 (gi (rd (gl m 6) i) 3)), (V.inl t_byte (gl (rd (gl m 6) i) 4)), (V.inl t_byte (gl (rd (gl m 6) i) 5)), (V.int .i64 (gi (rd (gl m 6) i) 6))]) = some (V.agg [(V.int .i64 (gi (rd (gl m 6) i) 1)), (V.int .i64 (gi (rd (gl m 6) i) 2)), (V.int .i64 (gi (rd (gl m 6) i) 3)), (V.inl t_byte (gl (rd (gl m 6) i) 4)), (V.inl t_byte (gl (rd (gl m 6) i) 5)), (V.int .i64 (gi (rd (gl m 6) i) 6))]) :=
      impl_cmdOwn_eq (c := V.agg [(V.int .i64 (gi (rd (gl m 6) i) 1)), (V.int .i64 (gi (rd (gl m 6) i) 2)), (V.int .i64 (gi (rd (gl m 6) i) 3)), (V.inl t_byte (gl (rd (gl m 6) i) 4)), (V.inl t_byte (gl (rd (gl m 6) i) 5)), (V.int .i64 (gi (rd (gl m 6) i) 6))]) (hzi i hi').1 (hzi i hi').2
    simp only [e1, e2, ND.b, gi_c0, gi_cs, gl_c0, gl_cs, lt_nat hi', idxOk_nat hi', Int.toNat_natCast, cond_true, wr_succ hi' (show (gl m 6).length ≤ 9223372036854775807 by omega), ho, Option.bind_some]
    rw [takeS]
    generalize hl : takeS (gl m 6) p f.log i = l at *
    have et := impl_termAt_eq (n := ({ f with log := l } : ND).v) (p := p + i + 1) (show l.length ≤ _ by omega) (by omega)
    have et' : impl_Node_termAt (V.agg [(V.int .i64 f.id), (V.int .i64 f.term), (V.int .i64 f.vote), (V.inl t_impl_Item l), (V.int .i64 f.commit), (V.int .i64 f.role), (V.int .i64 f.lead), (V.int .i64 f.wait), (V.inl t_bool f.votes), (V.inl t_int' f.next), (V.inl t_int' f.mtch)]) ((p + i + 1 : Nat) : Int) = some (termL l (p + i + 1)) := et
    by_cases c : p + i < l.length
    · rw [decide_eq_true (show ((p + i + 1 : Nat) : Int) ≤ ((l.length : Nat) : Int) by omega), decide_eq_false (show ¬ ((l.length : Nat) : Int) < ((p + i + 1 : Nat) : Int) by omega), decide_eq_true c, et']
      have e3 : termL l (p + i + 1) = gi (rd l (p + i)) 0 := by
        unfold termL; rw [decide_eq_true (show 1 ≤ p + i + 1 ∧ p + i + 1 ≤ l.length by omega)]; rfl
      simp only [Option.bind_some, e3, cond_true]
      by_cases e : gi (rd l (p + i)) 0 = gi (rd (gl m 6) i) 0
      · rw [decide_eq_true e]; rfl
      · rw [decide_eq_false e]
        have hlt : (l.take (p + i)).length = p + i := by rw [List.length_take]; omega
        rw [show (decide ((0 : Int) ≤ ((p + i : Nat) : Int)) && decide (((p + i : Nat) : Int) ≤ ((l.length : Nat) : Int))) = true from by rw [decide_eq_true (by omega), decide_eq_true (by omega)]; rfl, decide_eq_true (show ((p + i : Nat) : Int) < ((p + i + 1 : Nat) : Int) by omega), roomyB (n := (l.take (p + i)).length + 1) (by omega) (by omega)]
        rfl
    · rw [decide_eq_false (show ¬ ((p + i + 1 : Nat) : Int) ≤ ((l.length : Nat) : Int) by omega), decide_eq_true (show ((l.length : Nat) : Int) < ((p + i + 1 : Nat) : Int) by omega), decide_eq_false c, roomyB (n := l.length + 1) (by omega) (by omega)]
      rfl
  · intro k r hI
    subst hI
    show impl_server_add_l18 (k + 1) _ _ _ _ _ _ _ _ _ _ _ = _
    rw [impl_server_add_l18, lt_self]; rfl
end Go.Eng.R
open Go Go.Eng
namespace Go.Eng.R
def ND.hd (s : ND) (m : V) : ND := { s.fol (gi m 3) with wait := 0, lead := gi m 1 }
def ND.tk (f : ND) (m : V) (p : Nat) : ND := { f with log := takeS (gl m 6) p f.log (gl m 6).length, commit := mxI f.commit (mnI (gi m 7) ((p + (gl m 6).length : Nat) : Int)) }
def takeR (s : ND) (m : V) (p : Nat) : Int × Bool × ND :=
  bif decide (gi m 3 < s.term) then (0, false, s)
  else bif decide (s.role = 2) then (0, false, s)
  else bif decide (((s.log.length : Nat) : Int) < gi m 4) then (((s.log.length : Nat) : Int), false, s.hd m)
  else bif !decide (termL s.log p = gi m 5) then (gi m 4 - 1, false, s.hd m)
  else bif (List.range (gl m 6).length).all (stepC (s.hd m) (gl m 6) p) then (((p + (gl m 6).length : Nat) : Int), true, (s.hd m).tk m p)
  else (s.commit, false, s.hd m)
def tellR (s : ND) (m : V) (p : Nat) : ND × List V := ((takeR s m p).2.2, [ansM 3 s (gi m 1) (takeR s m p).1 (takeR s m p).2.1])
theorem fol_log (s : ND) (t : Int) : (s.fol t).log = s.log := by rw [fol_eq]
theorem fol_commit (s : ND) (t : Int) : (s.fol t).commit = s.commit := by rw [fol_eq]
theorem fol_id (s : ND) (t : Int) : (s.fol t).id = s.id := by rw [fol_eq]
theorem fol_term {s : ND} {t : Int} (h : ¬ s.term < t) : (s.fol t).term = s.term := by rw [fol_eq, decide_eq_false h]; rfl
theorem impl_add_eq {s : ND} (h : HOk s) {m : V} (hm : W_Msg m) (hz : z_Msg m ≤ 1048576) (hp : MsgP m) {p : Nat} (hpp : gi m 4 = (p : Int)) : impl_server_add (s.sv []) m = some ((takeR s m p).1, (takeR s m p).2.1, (takeR s m p).2.2.sv []) := by
  have hc := h.c; have hl := hc.log; have h4 := hp.len4; have hpM := hp.prevM
  have hzm : zS z_Item (gl m 6) ≤ 1048576 := hz
  have hf := impl_follow_eq s [] (gi m 3)
  have e3 : gl ((s.fol (gi m 3)).sv []) 3 = s.log := fol_log s _
  have et : ∀ q : Nat, q ≤ 1000 → impl_Node_termAt (s.hd m).v (q : Int) = some (termL s.log q) := fun q hq => by
    have := impl_termAt_eq (n := (s.hd m).v) (p := q) (show (s.fol (gi m 3)).log.length ≤ _ by rw [fol_log]; omega) (by omega)
    have e : termN (s.hd m).v q = termL s.log q := by show termL (s.fol (gi m 3)).log q = _; rw [fol_log]
    rw [e] at this; exact this
  have et' : impl_Node_termAt (s.hd m).v (gi m 4) = some (termL s.log p) := by rw [hpp]; exact et p (by omega)
  unfold impl_server_add takeR
  simp only [show n_impl_server (s.sv []) = s.sv [] from rfl, hf, e3, show gi (s.sv []) 1 = s.term from rfl, show gi (s.sv []) 5 = s.role from rfl]
  cases decide (gi m 3 < s.term) with
  | true => rfl
  | false =>
    cases decide (s.role = 2) with
    | true => rfl
    | false =>
      simp only [cond_false]
      by_cases hlen : ((s.log.length : Nat) : Int) < gi m 4
      · rw [decide_eq_true hlen]
        rw [← fol_log s (gi m 3)]; rfl
      rw [decide_eq_false hlen]
      simp only [cond_false]
      refine Eq.trans (congrArg (fun o => Option.bind o _) (show _ = some (termL s.log p) from ?_)) ?_
      · rw [← et', ← fol_log s (gi m 3)]; rfl
      rw [Option.bind_some]
      cases decide (termL s.log p = gi m 5) with
      | false =>
        simp only [Bool.not_false, cond_true]
        rw [wr64' (n := gi m 4 - 1) (by omega) (by omega), ← fol_log s (gi m 3)]; rfl
      | true =>
        simp only [Bool.not_true, cond_false]
        have hcm : (s.hd m).commit = s.commit := fol_commit s _
        have hlg : (s.hd m).log = s.log := fol_log s _
        have e1 := impl_chk_run (f := s.hd m) (m := m) (out := []) hpp (by omega) (by omega) (by rw [hlg]; omega) (by rw [hcm, hlg]; exact hc.com1)
        have e2 := impl_take_run (f := s.hd m) (m := m) (out := []) hpp (by rw [hlg]; omega) (by omega) (by rw [hlg]; omega) (by omega)
        refine Eq.trans (congrArg (fun o => Option.bind o _) (show _ = (bif (List.range (gl m 6).length).all (stepC (s.hd m) (gl m 6) p) then some (1, 0, false, (s.hd m).b 2 3 4 5 6, n_impl_Msg m, (s.hd m).log, (s.hd m).votes, (s.hd m).next, (s.hd m).mtch, []) else some (0, (s.hd m).commit, false, (s.hd m).b 2 3 4 5 6, n_impl_Msg m, (s.hd m).log, (s.hd m).votes, (s.hd m).next, (s.hd m).mtch, [])) from ?_)) ?_
        · rw [fuel_eq]
          refine Eq.trans ?_ e1
          rw [hlg]; rfl
        cases (List.range (gl m 6).length).all (stepC (s.hd m) (gl m 6) p) with
        | false => rw [← hcm]; rfl
        | true =>
          show Option.bind (impl_server_add_l18 (((((gl m 6).length : Nat) : Int) - 0).toNat + 1) (gi m 4) (gl m 6) (((gl m 6).length : Nat) : Int) 0 ((s.hd m).b 2 3 4 5 6) (n_impl_Msg m) (s.hd m).log (s.hd m).votes (s.hd m).next (s.hd m).mtch []) _ = _
          rw [fuel_eq, hpp, e2]
          rfl
end Go.Eng.R
open Go Go.Eng
namespace Go.Eng.R
theorem takeR_term {s : ND} {m : V} {p : Nat} (ht : ¬ s.term < gi m 3) : (takeR s m p).2.2.term = s.term := by
  have e : (s.hd m).term = s.term := fol_term ht
  unfold takeR
  cases decide (gi m 3 < s.term) with
  | true => rfl
  | false =>
    cases decide (s.role = 2) with
    | true => rfl
    | false =>
      cases decide (((s.log.length : Nat) : Int) < gi m 4) with
      | true => exact e
      | false =>
        cases decide (termL s.log p = gi m 5) with
        | false => exact e
        | true => cases (List.range (gl m 6).length).all (stepC (s.hd m) (gl m 6) p) <;> exact e
theorem impl_hear_tell {s : ND} {m : V} (h : HOk s) (hm : W_Msg m) (hz : z_Msg m ≤ 1048576) (hp : MsgP m) (hM : n_impl_Msg m = m) (hk : gi m 0 = 2) (ht : ¬ s.term < gi m 3) : impl_server_hear (s.sv []) m = some ((tellR s m (gi m 4).toNat).1.sv (tellR s m (gi m 4).toNat).2) := by
  have e := impl_add_eq h hm hz hp (p := (gi m 4).toNat) (by have := hp.prev0; omega)
  have et := takeR_term (p := (gi m 4).toNat) ht
  unfold impl_server_hear
  rw [show gi (s.sv []) 1 = s.term from rfl, decide_eq_false ht, hk]
  simp only [cond_false, show ¬ ((2 : Int) = 0) by decide, show ¬ ((2 : Int) = 1) by decide, decide_false, decide_true, cond_true, hM, show n_impl_server (s.sv []) = s.sv [] from rfl, e, Option.bind_some, show ∀ t : ND, gl (t.sv []) 11 = [] from fun _ => rfl, room1]
  unfold tellR ansM
  rw [← et]
  rfl
theorem HOk.hdOk {s : ND} (h : HOk s) {m : V} (hm : W_Msg m) (hp : MsgP m) : StepOk' (s.hd m) [] := by
  have h' := h.fol (t := gi m 3) (by have := hp.term1; omega) hp.termM
  have hc := h'.c; have hf := hc.few; have hn := hc.next; have hv := hc.votes; have hz := h'.sz; have hW := hc.W
  refine StepOk'.none ⟨hW.1, hW.2.1, hW.2.2.1, hW.2.2.2.1, hW.2.2.2.2.1, hW.2.2.2.2.2.1, hm.2.1, I64_0, hW.2.2.2.2.2.2.2.2.1, hW.2.2.2.2.2.2.2.2.2.1, hW.2.2.2.2.2.2.2.2.2.2⟩ hc.nrm ?_ ?_ ?_ ?_
  · show zS z_Item (s.fol (gi m 3)).log ≤ _; omega
  · show (s.fol (gi m 3)).votes.length ≤ 5; omega
  · show (s.fol (gi m 3)).next.length ≤ 5; omega
  · show (s.fol (gi m 3)).mtch.length ≤ 5; omega
theorem HOk.tkOk {s : ND} (h : HOk s) {m : V} (hm : W_Msg m) (hz : z_Msg m ≤ 1048576) (hp : MsgP m) {p : Nat} (hpp : gi m 4 = (p : Int)) (hpl : p ≤ s.log.length) : StepOk' ((s.hd m).tk m p) [] := by
  have hh := h.hdOk hm hp; have hW := hh.W; have hl := h.c.log; have h4 := hp.len4; have hpM := hp.prevM; have hlP := hp.lenP; have hs := h.sz
  have c0 := hp.com0; have cM := hp.comM; have hc0 := h.c.com0; have hc1 := h.c.com1
  have hlg : (s.hd m).log = s.log := fol_log s _
  have hcm : (s.hd m).commit = s.commit := fol_commit s _
  have hzm : zS z_Item (gl m 6) ≤ 1048576 := hz
  have z := takeS_z (items := gl m 6) (p := p) (log := s.log) (gl m 6).length (Nat.le_refl _)
  rw [List.take_length] at z
  refine StepOk'.none ⟨hW.1, hW.2.1, hW.2.2.1, ?_, ?_, hW.2.2.2.2.2.1, hW.2.2.2.2.2.2.1, hW.2.2.2.2.2.2.2.1, hW.2.2.2.2.2.2.2.2.1, hW.2.2.2.2.2.2.2.2.2.1, hW.2.2.2.2.2.2.2.2.2.2⟩ ?_ ?_ hh.votes hh.next hh.mtch
  · show LW W_Item (takeS (gl m 6) p (s.hd m).log (gl m 6).length)
    rw [hlg]
    exact takeS_W (log := s.log) hm.2.2.2.2.2.2.1 h.c.W.2.2.2.1 hpl (by omega) (by omega) _ (Nat.le_refl _)
  · show I64 (mxI (s.hd m).commit (mnI (gi m 7) ((p + (gl m 6).length : Nat) : Int)))
    rw [hcm]
    unfold mxI mnI; split <;> (try split) <;> exact ⟨by omega, by omega⟩
  · show Nrm (takeS (gl m 6) p (s.hd m).log (gl m 6).length)
    rw [hlg]; exact takeS_nrm h.c.nrm _
  · show zS z_Item (takeS (gl m 6) p (s.hd m).log (gl m 6).length) ≤ _
    rw [hlg]; omega
theorem HOk.tell {s : ND} (h : HOk s) {m : V} (hm : W_Msg m) (hz : z_Msg m ≤ 1048576) (hp : MsgP m) : StepOk' (tellR s m (gi m 4).toNat).1 (tellR s m (gi m 4).toNat).2 := by
  have hl := h.c.log; have p0 := hp.prev0; have pM := hp.prevM; have h4 := hp.len4; have hc0 := h.c.com0; have hc1 := h.c.com1
  have key : StepOk' (takeR s m (gi m 4).toNat).2.2 [] ∧ I64 (takeR s m (gi m 4).toNat).1 := by
    unfold takeR
    cases decide (gi m 3 < s.term) with
    | true => exact ⟨h.stay, I64_0⟩
    | false =>
      cases decide (s.role = 2) with
      | true => exact ⟨h.stay, I64_0⟩
      | false =>
        simp only [cond_false]
        by_cases hlen : ((s.log.length : Nat) : Int) < gi m 4
        · rw [decide_eq_true hlen]; exact ⟨h.hdOk hm hp, by show (-9223372036854775808 : Int) ≤ ((s.log.length : Nat) : Int); omega, by show ((s.log.length : Nat) : Int) ≤ 9223372036854775807; omega⟩
        rw [decide_eq_false hlen]
        cases decide (termL s.log (gi m 4).toNat = gi m 5) with
        | false => exact ⟨h.hdOk hm hp, by show (-9223372036854775808 : Int) ≤ gi m 4 - 1; omega, by show gi m 4 - 1 ≤ 9223372036854775807; omega⟩
        | true =>
          cases (List.range (gl m 6).length).all (stepC (s.hd m) (gl m 6) (gi m 4).toNat) with
          | true => exact ⟨h.tkOk hm hz hp (by omega) (by omega), by show (-9223372036854775808 : Int) ≤ (((gi m 4).toNat + (gl m 6).length : Nat) : Int); omega, by show (((gi m 4).toNat + (gl m 6).length : Nat) : Int) ≤ 9223372036854775807; omega⟩
          | false => exact ⟨h.hdOk hm hp, by show (-9223372036854775808 : Int) ≤ s.commit; omega, by show s.commit ≤ 9223372036854775807; omega⟩
  exact StepOk'.ans key.1 h.c.W ⟨by decide, by decide⟩ hm.2.1 key.2 _
end Go.Eng.R
open Go Go.Eng
namespace Go.Eng.R
set_option maxRecDepth 100000
theorem rdMap {l : List V} {f : V → V} {i : Nat} (h : i < l.length) : rd (l.map f) i = f (rd l i) := by simp [rd, List.getD, h]
theorem rdRep {x : V} {n i : Nat} (h : i < n) : rd (List.replicate n x) i = x := by simp [rd, List.getD, h]
theorem rdApL {a b : List V} {i : Nat} (h : i < a.length) : rd (a ++ b) i = rd a i := by simp [rd, List.getD, List.getElem?_append, h]
theorem rdApR (a : List V) (x : V) : rd (a ++ [x]) a.length = x := by simp [rd, List.getD]
theorem rdTake {l : List V} {n i : Nat} (h : i < n) : rd (l.take n) i = rd l i := by simp [rd, List.getD, h]
structure LogP (l : List V) (t : Int) : Prop where
  ok : ∀ i, i < l.length → itemB (rd l i) = true
  le : ∀ i, i < l.length → gi (rd l i) 0 ≤ t
  mono : ∀ i, i + 1 < l.length → gi (rd l i) 0 ≤ gi (rd l (i + 1)) 0
theorem LogP.up {l : List V} {t u : Int} (h : LogP l t) (hu : t ≤ u) : LogP l u := ⟨h.ok, fun i hi => Int.le_trans (h.le i hi) hu, h.mono⟩
theorem LogP.take {l : List V} {t : Int} (h : LogP l t) (n : Nat) : LogP (l.take n) t := by
  refine ⟨fun i hi => ?_, fun i hi => ?_, fun i hi => ?_⟩ <;> rw [List.length_take] at hi
  · rw [rdTake (by omega)]; exact h.ok i (by omega)
  · rw [rdTake (by omega)]; exact h.le i (by omega)
  · rw [rdTake (by omega), rdTake (by omega)]; exact h.mono i (by omega)
theorem LogP.app {l : List V} {t : Int} (h : LogP l t) {x : V} (hx : itemB x = true) (hxt : gi x 0 ≤ t) (hm : 0 < l.length → gi (rd l (l.length - 1)) 0 ≤ gi x 0) : LogP (l ++ [x]) t := by
  refine ⟨fun i hi => ?_, fun i hi => ?_, fun i hi => ?_⟩ <;> rw [List.length_append, List.length_singleton] at hi
  · by_cases c : i < l.length
    · rw [rdApL c]; exact h.ok i c
    · obtain rfl : i = l.length := by omega
      rw [rdApR]; exact hx
  · by_cases c : i < l.length
    · rw [rdApL c]; exact h.le i c
    · obtain rfl : i = l.length := by omega
      rw [rdApR]; exact hxt
  · by_cases c : i + 1 < l.length
    · rw [rdApL c, rdApL (by omega)]; exact h.mono i c
    · have e : l.length = i + 1 := by omega
      rw [rdApL (by omega)]
      have e2 : rd (l ++ [x]) (i + 1) = x := by rw [← e]; exact rdApR l x
      rw [e2]
      have := hm (by omega)
      rw [e] at this; exact this
theorem itemB_t1 {x : V} (h : itemB x = true) : 1 ≤ gi x 0 ∧ gi x 0 ≤ 100000 := by
  simp only [itemB, Bool.and_eq_true, decide_eq_true_eq] at h; exact h.1
theorem LogP.termL {l : List V} {t : Int} (h : LogP l t) (p : Nat) (hp : p ≤ l.length) : (p = 0 ∧ termL l p = 0) ∨ (1 ≤ p ∧ termL l p = gi (rd l (p - 1)) 0 ∧ 1 ≤ termL l p ∧ termL l p ≤ t) := by
  unfold Go.Eng.R.termL
  by_cases c : p = 0
  · subst c; exact .inl ⟨rfl, rfl⟩
  · rw [decide_eq_true (show 1 ≤ p ∧ p ≤ l.length by omega)]
    refine .inr ⟨by omega, rfl, ?_, ?_⟩
    · exact (itemB_t1 (h.ok (p - 1) (by omega))).1
    · exact h.le (p - 1) (by omega)
structure VP (s : ND) (k : Int) : Prop where
  k1 : 1 ≤ k
  k5 : k ≤ 5
  id0 : 0 ≤ s.id
  idk : s.id < k
  term0 : 0 ≤ s.term
  term1 : s.term ≤ 100000
  vote0 : -1 ≤ s.vote
  votek : s.vote < k
  lead0 : -1 ≤ s.lead
  leadk : s.lead < k
  len : s.log.length ≤ 400
  com0 : 0 ≤ s.commit
  com1 : s.commit ≤ (s.log.length : Int)
  role0 : 0 ≤ s.role
  role2 : s.role ≤ 2
  wait0 : 0 ≤ s.wait
  wait1 : s.wait ≤ 20
  lvotes : (s.votes.length : Int) = k
  lnext : (s.next.length : Int) = k
  lmatch : (s.mtch.length : Int) = k
  log : LogP s.log s.term
  lead : s.role = 2 → ∀ i, i < s.next.length → 1 ≤ gi (rd s.next i) 0 ∧ gi (rd s.next i) 0 ≤ (s.log.length : Int) + 1 ∧ 0 ≤ gi (rd s.mtch i) 0 ∧ gi (rd s.mtch i) 0 ≤ (s.log.length : Int)
  idle : s.role ≠ 2 → ∀ i, i < s.next.length → gi (rd s.next i) 0 = 0 ∧ gi (rd s.mtch i) 0 = 0
  unv : s.role = 0 → ∀ i, i < s.votes.length → gb (rd s.votes i) 0 = false
  stands : s.role ≠ 0 → 1 ≤ s.term ∧ s.vote = s.id
  leads : s.role = 2 → s.lead = s.id
theorem VP.p {s : ND} {k : Int} (h : VP s k) : NodeP s.v k := by
  have hl := h.len
  refine ⟨h.k1, h.k5, h.id0, h.idk, h.term0, h.term1, h.vote0, h.votek, h.lead0, h.leadk, ?_, h.com0, h.com1, h.role0, h.role2, h.wait0, h.wait1, h.lvotes, h.lnext, h.lmatch, ?_, ?_, ?_, h.stands, h.leads⟩
  · show ((s.log.length : Nat) : Int) ≤ 400; omega
  · refine List.all_eq_true.2 fun i hi => ?_
    have hi : i < s.log.length := List.mem_range.1 hi
    show (itemB (rd s.log i) && (decide (gi (rd s.log i) 0 ≤ s.term) && (decide (i = 0) || decide (gi (rd s.log (i - 1)) 0 ≤ gi (rd s.log i) 0)))) = true
    rw [h.log.ok i hi, decide_eq_true (h.log.le i hi)]
    cases i with
    | zero => rfl
    | succ j => rw [show j + 1 - 1 = j from rfl, decide_eq_true (h.log.mono j hi)]; simp
  · refine List.all_eq_true.2 fun i hi => ?_
    have hi : i < s.next.length := List.mem_range.1 hi
    show (bif decide (s.role = 2) then decide (1 ≤ gi (rd s.next i) 0 ∧ gi (rd s.next i) 0 ≤ ((s.log.length : Nat) : Int) + 1) && decide (0 ≤ gi (rd s.mtch i) 0 ∧ gi (rd s.mtch i) 0 ≤ ((s.log.length : Nat) : Int)) else decide (gi (rd s.next i) 0 = 0) && decide (gi (rd s.mtch i) 0 = 0)) = true
    by_cases h2 : s.role = 2
    · obtain ⟨a, b, c, d⟩ := h.lead h2 i hi
      rw [decide_eq_true h2, decide_eq_true (And.intro a b), decide_eq_true (And.intro c d)]; rfl
    · obtain ⟨a, b⟩ := h.idle h2 i hi
      rw [decide_eq_false h2, decide_eq_true a, decide_eq_true b]; rfl
  · refine List.all_eq_true.2 fun i hi => ?_
    have hi : i < s.votes.length := List.mem_range.1 hi
    show (!(decide (s.role = 0)) || !(gb (rd s.votes i) 0)) = true
    by_cases h0 : s.role = 0
    · rw [h.unv h0 i hi]; simp
    · rw [decide_eq_false h0]; rfl
theorem NodeP.vp {n : V} {k : Int} (h : NodeP n k) : VP (ownD n) k := by
  have hl := h.len
  have el : (ownD n).log.length = (gl n 3).length := List.length_map _
  have er : ∀ i, i < (gl n 3).length → rd (ownD n).log i = n_impl_Item (rd (gl n 3) i) := fun i hi => rdMap hi
  have hg : ∀ i, i < (gl n 3).length → itemB (rd (gl n 3) i) = true ∧ gi (rd (gl n 3) i) 0 ≤ gi n 1 ∧ (i = 0 ∨ gi (rd (gl n 3) (i - 1)) 0 ≤ gi (rd (gl n 3) i) 0) := fun i hi => by
    have := List.all_eq_true.1 h.items i (List.mem_range.2 hi)
    simp only [logB, Bool.and_eq_true, Bool.or_eq_true, decide_eq_true_eq] at this
    exact this
  refine ⟨h.k1, h.k5, h.id0, h.idk, h.term0, h.term1, h.vote0, h.votek, h.lead0, h.leadk, by rw [el]; omega, h.com0, by rw [el]; exact h.com1, h.role0, h.role2, h.wait0, h.wait1, h.lvotes, h.lnext, h.lmatch, ⟨fun i hi => ?_, fun i hi => ?_, fun i hi => ?_⟩, fun h2 i hi => ?_, fun h2 i hi => ?_, fun h0 i hi => ?_, h.stands, h.leads⟩
  · rw [el] at hi; rw [er i hi]; exact (hg i hi).1
  · rw [el] at hi; rw [er i hi]; exact (hg i hi).2.1
  · rw [el] at hi; rw [er i (by omega), er (i + 1) hi]
    rcases (hg (i + 1) hi).2.2 with h' | h'
    · omega
    · exact h'
  · have h2 : gi n 5 = 2 := h2
    have hi : i < (gl n 9).length := hi
    have := List.all_eq_true.1 h.cells i (List.mem_range.2 hi)
    simp only [cellB, h2, decide_true, cond_true, Bool.and_eq_true, decide_eq_true_eq] at this
    rw [el]; exact ⟨this.1.1, this.1.2, this.2.1, this.2.2⟩
  · have h2 : ¬ gi n 5 = 2 := h2
    have hi : i < (gl n 9).length := hi
    have := List.all_eq_true.1 h.cells i (List.mem_range.2 hi)
    simp only [cellB, h2, decide_false, cond_false, Bool.and_eq_true, decide_eq_true_eq] at this
    exact this
  · have h0 : gi n 5 = 0 := h0
    have hi : i < (gl n 8).length := hi
    have := List.all_eq_true.1 h.votes i (List.mem_range.2 hi)
    simp only [voteB, h0, decide_true, Bool.not_true, Bool.false_or, Bool.not_eq_true'] at this
    exact this
theorem VP.fol {s : ND} {k : Int} (h : VP s k) {t : Int} (tM : t ≤ 100000) : VP (s.fol t) k := by
  have k1 := h.k1; have t1 := h.term1
  rw [fol_eq]
  have z : ∀ i, i < (List.replicate s.next.length (V.int .i64 0)).length → gi (rd (List.replicate s.next.length (V.int .i64 0)) i) 0 = 0 ∧ gi (rd (List.replicate s.mtch.length (V.int .i64 0)) i) 0 = 0 := fun i hi => by
    rw [List.length_replicate] at hi
    have e1 := h.lnext; have e2 := h.lmatch
    rw [rdRep hi, rdRep (by omega)]; exact ⟨rfl, rfl⟩
  have v : ∀ i, i < (List.replicate s.votes.length (V.bool false)).length → gb (rd (List.replicate s.votes.length (V.bool false)) i) 0 = false := fun i hi => by
    rw [List.length_replicate] at hi
    rw [rdRep hi]; rfl
  have lv : ((List.replicate s.votes.length (V.bool false)).length : Int) = k := by rw [List.length_replicate]; exact h.lvotes
  have ln : ((List.replicate s.next.length (V.int .i64 0)).length : Int) = k := by rw [List.length_replicate]; exact h.lnext
  have lm : ((List.replicate s.mtch.length (V.int .i64 0)).length : Int) = k := by rw [List.length_replicate]; exact h.lmatch
  by_cases c : s.term < t
  · rw [decide_eq_true c]
    exact ⟨h.k1, h.k5, h.id0, h.idk, by show 0 ≤ t; have := h.term0; omega, tM, by show (-1 : Int) ≤ -1; omega, by show (-1 : Int) < k; omega, by show (-1 : Int) ≤ -1; omega, by show (-1 : Int) < k; omega, h.len, h.com0, h.com1, Int.le_refl _, (by decide : (0 : Int) ≤ 2), h.wait0, h.wait1, lv, ln, lm, h.log.up (by show s.term ≤ t; omega), fun e => absurd (show (0 : Int) = 2 from e) (by decide), fun _ => z, fun _ => v, fun e => absurd rfl e, fun e => absurd (show (0 : Int) = 2 from e) (by decide)⟩
  · rw [decide_eq_false c]
    exact ⟨h.k1, h.k5, h.id0, h.idk, h.term0, h.term1, h.vote0, h.votek, h.lead0, h.leadk, h.len, h.com0, h.com1, Int.le_refl _, (by decide : (0 : Int) ≤ 2), h.wait0, h.wait1, lv, ln, lm, h.log, fun e => absurd (show (0 : Int) = 2 from e) (by decide), fun _ => z, fun _ => v, fun e => absurd rfl e, fun e => absurd (show (0 : Int) = 2 from e) (by decide)⟩
theorem VP.hd {s : ND} {k : Int} (h : VP s k) {m : V} (hp : MsgP m) (hk : gi m 1 < k) : VP (s.hd m) k := by
  have g := h.fol hp.termM
  have r0 : (s.fol (gi m 3)).role = 0 := by rw [fol_eq]
  exact ⟨g.k1, g.k5, g.id0, g.idk, g.term0, g.term1, g.vote0, g.votek, by show -1 ≤ gi m 1; have := hp.from0; omega, hk, g.len, g.com0, g.com1, g.role0, g.role2, Int.le_refl _, (by decide : (0 : Int) ≤ 20), g.lvotes, g.lnext, g.lmatch, g.log, g.lead, g.idle, g.unv, g.stands, fun e => absurd (r0.symm.trans e) (by decide)⟩
theorem VP.ask {s : ND} {k : Int} (h : VP s k) {m : V} (hp : MsgP m) (hk : gi m 1 < k) : VP (askR s m).1 k := by
  unfold askR
  cases hy : yesB s m with
  | false => exact h
  | true =>
    simp only [yesB, Bool.and_eq_true, decide_eq_true_eq] at hy
    have r0 := hy.2.1
    exact ⟨h.k1, h.k5, h.id0, h.idk, h.term0, h.term1, by show -1 ≤ gi m 1; have := hp.from0; omega, hk, h.lead0, h.leadk, h.len, h.com0, h.com1, h.role0, h.role2, Int.le_refl _, (by decide : (0 : Int) ≤ 20), h.lvotes, h.lnext, h.lmatch, h.log, h.lead, h.idle, h.unv, fun e => absurd r0 e, h.leads⟩
theorem VP.elec {s : ND} {k : Int} (h : VP s k) (r1 : s.role = 1) (m : V) : VP (elect s m) k :=
  ⟨h.k1, h.k5, h.id0, h.idk, h.term0, h.term1, h.vote0, h.votek, h.lead0, h.leadk, h.len, h.com0, h.com1, h.role0, h.role2, h.wait0, h.wait1, by show ((s.votes.set _ _).length : Int) = k; rw [List.length_set]; exact h.lvotes, h.lnext, h.lmatch, h.log, h.lead, h.idle, fun e => absurd (r1.symm.trans e) (by decide), h.stands, h.leads⟩
set_option maxRecDepth 100000 in
theorem noop_ok {t : Int} (h1 : 1 ≤ t) (h2 : t ≤ 100000) : itemB (noopI t) = true := by
  unfold itemB
  rw [show gi (noopI t) 0 = t from rfl, decide_eq_true (And.intro h1 h2), Bool.true_and]
  simp [noopI, cmdB, opB, gi_c0, gi_cs, gl_c0, gl_cs]
theorem VP.lead' {s : ND} {k : Int} (h : VP s k) (r : s.role ≠ 0) : VP s.lead' k := by
  obtain ⟨t1, hv⟩ := h.stands r
  have i0 := h.id0; have ik := h.idk; have hl := h.len
  have hlog : (bif decide (((s.log.length : Nat) : Int) < 400) then s.log ++ [noopI s.term] else s.log).length ≤ 400 ∧ s.log.length ≤ (bif decide (((s.log.length : Nat) : Int) < 400) then s.log ++ [noopI s.term] else s.log).length ∧ LogP (bif decide (((s.log.length : Nat) : Int) < 400) then s.log ++ [noopI s.term] else s.log) s.term := by
    by_cases c : ((s.log.length : Nat) : Int) < 400
    · rw [decide_eq_true c]
      refine ⟨?_, ?_, h.log.app (noop_ok t1 h.term1) (Int.le_refl _) fun h0 => h.log.le _ (by omega)⟩
      · show (s.log ++ [noopI s.term]).length ≤ 400
        rw [List.length_append, List.length_singleton]; omega
      · show s.log.length ≤ (s.log ++ [noopI s.term]).length
        rw [List.length_append, List.length_singleton]; omega
    · rw [decide_eq_false c]; exact ⟨hl, Nat.le_refl _, h.log⟩
  obtain ⟨l1, l2, l3⟩ := hlog
  have l1 : s.lead'.log.length ≤ 400 := l1
  have l2 : s.log.length ≤ s.lead'.log.length := l2
  refine ⟨h.k1, h.k5, h.id0, h.idk, h.term0, h.term1, h.vote0, h.votek, by show -1 ≤ s.id; omega, h.idk, l1, h.com0, by show s.commit ≤ (s.lead'.log.length : Int); have := h.com1; omega, (by decide : (0 : Int) ≤ 2), Int.le_refl _, Int.le_refl _, (by decide : (0 : Int) ≤ 20), h.lvotes, ?_, ?_, l3, fun _ i hi => ?_, fun e => absurd rfl e, fun e => absurd (show (2 : Int) = 0 from e) (by decide), fun _ => ⟨t1, hv⟩, fun _ => rfl⟩
  · show ((List.replicate s.next.length (nextX s)).length : Int) = k; rw [List.length_replicate]; exact h.lnext
  · show ((List.replicate s.mtch.length (V.int .i64 0)).length : Int) = k; rw [List.length_replicate]; exact h.lmatch
  · have hi : i < (List.replicate s.next.length (nextX s)).length := hi
    rw [List.length_replicate] at hi
    have e1 := h.lnext; have e2 := h.lmatch
    show 1 ≤ gi (rd (List.replicate s.next.length (nextX s)) i) 0 ∧ gi (rd (List.replicate s.next.length (nextX s)) i) 0 ≤ (s.lead'.log.length : Int) + 1 ∧ 0 ≤ gi (rd (List.replicate s.mtch.length (V.int .i64 0)) i) 0 ∧ gi (rd (List.replicate s.mtch.length (V.int .i64 0)) i) 0 ≤ (s.lead'.log.length : Int)
    rw [rdRep hi, rdRep (by omega)]
    refine ⟨?_, ?_, Int.le_refl _, ?_⟩
    · show (1 : Int) ≤ ((s.log.length : Nat) : Int) + 1; omega
    · show ((s.log.length : Nat) : Int) + 1 ≤ _; omega
    · show (0 : Int) ≤ _; omega
theorem VP.adv {s : ND} {k : Int} (h : VP s k) (r : s.role = 2) : VP s.adv k := by
  have i0 := h.id0; have ik := h.idk; have c0 := h.com0; have c1 := h.com1
  have e1 := h.lnext; have e2 := h.lmatch; have e3 := h.lvotes
  have a1 := adv_commit (s := s) c0
  have a2 := scanC_le s.mark s.commit.toNat (s.log.length - s.commit.toNat)
  refine ⟨h.k1, h.k5, h.id0, h.idk, h.term0, h.term1, h.vote0, h.votek, h.lead0, h.leadk, h.len, by omega, ?_, h.role0, h.role2, h.wait0, h.wait1, h.lvotes, ?_, ?_, h.log, fun _ i hi => ?_, fun e => absurd r e, h.unv, h.stands, h.leads⟩
  · show ((scanC s.mark s.commit.toNat (s.log.length - s.commit.toNat) : Nat) : Int) ≤ ((s.log.length : Nat) : Int); omega
  · show ((s.next.set _ _).length : Int) = k; rw [List.length_set]; exact e1
  · show ((s.mtch.set _ _).length : Int) = k; rw [List.length_set]; exact e2
  · have hi : i < (s.next.set s.id.toNat (V.int .i64 (((s.log.length : Nat) : Int) + 1))).length := hi
    rw [List.length_set] at hi
    show 1 ≤ gi (rd (s.next.set s.id.toNat (V.int .i64 (((s.log.length : Nat) : Int) + 1))) i) 0 ∧ gi (rd (s.next.set s.id.toNat (V.int .i64 (((s.log.length : Nat) : Int) + 1))) i) 0 ≤ (s.log.length : Int) + 1 ∧ 0 ≤ gi (rd (s.mtch.set s.id.toNat (V.int .i64 ((s.log.length : Nat) : Int))) i) 0 ∧ gi (rd (s.mtch.set s.id.toNat (V.int .i64 ((s.log.length : Nat) : Int))) i) 0 ≤ (s.log.length : Int)
    by_cases e : i = s.id.toNat
    · subst e
      rw [rd_set_eq (by omega), rd_set_eq (by omega)]
      refine ⟨?_, Int.le_refl _, ?_, Int.le_refl _⟩
      · show (1 : Int) ≤ ((s.log.length : Nat) : Int) + 1; omega
      · show (0 : Int) ≤ ((s.log.length : Nat) : Int); omega
    · rw [rd_set_ne e, rd_set_ne e]; exact h.lead r i hi
theorem VP.setN {s : ND} {k : Int} (h : VP s k) (r : s.role = 2) {j : Nat} {q : Int} (q1 : 1 ≤ q) (q2 : q ≤ (s.log.length : Int) + 1) : VP (s.setN j q) k := by
  refine ⟨h.k1, h.k5, h.id0, h.idk, h.term0, h.term1, h.vote0, h.votek, h.lead0, h.leadk, h.len, h.com0, h.com1, h.role0, h.role2, h.wait0, h.wait1, h.lvotes, ?_, h.lmatch, h.log, fun _ i hi => ?_, fun e => absurd r e, h.unv, h.stands, h.leads⟩
  · show ((s.next.set _ _).length : Int) = k; rw [List.length_set]; exact h.lnext
  · have hi2 : i < (s.next.set j (V.int .i64 q)).length := hi
    rw [List.length_set] at hi2
    show 1 ≤ gi (rd (s.next.set j (V.int .i64 q)) i) 0 ∧ gi (rd (s.next.set j (V.int .i64 q)) i) 0 ≤ (s.log.length : Int) + 1 ∧ 0 ≤ gi (rd s.mtch i) 0 ∧ gi (rd s.mtch i) 0 ≤ (s.log.length : Int)
    obtain ⟨a, b, c, d⟩ := h.lead r i hi2
    by_cases e : i = j
    · subst e; rw [rd_set_eq hi2]; exact ⟨q1, q2, c, d⟩
    · rw [rd_set_ne e]; exact ⟨a, b, c, d⟩
theorem VP.got {s : ND} {k : Int} (h : VP s k) (r : s.role = 2) {j : Nat} {p : Int} (p0 : 0 ≤ p) (p1 : p ≤ (s.log.length : Int)) : VP (s.got j p) k := by
  have e1 := h.lnext; have e2 := h.lmatch
  refine ⟨h.k1, h.k5, h.id0, h.idk, h.term0, h.term1, h.vote0, h.votek, h.lead0, h.leadk, h.len, h.com0, h.com1, h.role0, h.role2, h.wait0, h.wait1, h.lvotes, ?_, ?_, h.log, fun _ i hi => ?_, fun e => absurd r e, h.unv, h.stands, h.leads⟩
  · show ((s.next.set _ _).length : Int) = k; rw [List.length_set]; exact h.lnext
  · show ((s.mtch.set _ _).length : Int) = k; rw [List.length_set]; exact h.lmatch
  · have hi2 : i < (s.next.set j (V.int .i64 (p + 1))).length := hi
    rw [List.length_set] at hi2
    show 1 ≤ gi (rd (s.next.set j (V.int .i64 (p + 1))) i) 0 ∧ gi (rd (s.next.set j (V.int .i64 (p + 1))) i) 0 ≤ (s.log.length : Int) + 1 ∧ 0 ≤ gi (rd (s.mtch.set j (V.int .i64 p)) i) 0 ∧ gi (rd (s.mtch.set j (V.int .i64 p)) i) 0 ≤ (s.log.length : Int)
    obtain ⟨a, b, c, d⟩ := h.lead r i hi2
    by_cases e : i = j
    · subst e; rw [rd_set_eq hi2, rd_set_eq (by omega)]
      exact ⟨by show 1 ≤ p + 1; omega, by show p + 1 ≤ _; omega, p0, p1⟩
    · rw [rd_set_ne e, rd_set_ne e]; exact ⟨a, b, c, d⟩
end Go.Eng.R
open Go Go.Eng
namespace Go.Eng.R
set_option maxRecDepth 100000
theorem takeS_P {items log : List V} {p : Nat} {t : Int} {pt : Nat → Int} (hl : LogP log t) (hp : p ≤ log.length) (h0 : termL log p = pt 0)
    (hi : ∀ i, i < items.length → itemB (n_impl_Item (rd items i)) = true ∧ pt i ≤ gi (rd items i) 0 ∧ gi (rd items i) 0 ≤ t ∧ pt (i + 1) = gi (rd items i) 0) :
    ∀ i, i ≤ items.length → LogP (takeS items p log i) t ∧ termL (takeS items p log i) (p + i) = pt i
  | 0, _ => ⟨hl, h0⟩
  | i + 1, h => by
    obtain ⟨h1, h2⟩ := takeS_P hl hp h0 hi i (by omega)
    obtain ⟨b1, b2⟩ := takeS_len (items := items) hp i
    obtain ⟨c1, c2, c3, c4⟩ := hi i (by omega)
    have put : LogP ((takeS items p log i).take (p + i) ++ [n_impl_Item (rd items i)]) t ∧ termL ((takeS items p log i).take (p + i) ++ [n_impl_Item (rd items i)]) (p + (i + 1)) = pt (i + 1) := by
      have hlen : ((takeS items p log i).take (p + i)).length = p + i := by rw [List.length_take]; omega
      refine ⟨(h1.take (p + i)).app c1 c3 fun hpos => ?_, ?_⟩
      · rw [hlen] at hpos ⊢
        rw [rdTake (by omega)]
        unfold termL at h2
        rw [decide_eq_true (show 1 ≤ p + i ∧ p + i ≤ (takeS items p log i).length by omega)] at h2
        have h2 : gi (rd (takeS items p log i) (p + i - 1)) 0 = pt i := h2
        rw [h2]; exact c2
      · unfold termL
        rw [decide_eq_true (show 1 ≤ p + (i + 1) ∧ p + (i + 1) ≤ ((takeS items p log i).take (p + i) ++ [n_impl_Item (rd items i)]).length by rw [List.length_append, hlen, List.length_singleton]; omega), c4]
        have e : rd ((takeS items p log i).take (p + i) ++ [n_impl_Item (rd items i)]) (p + i) = n_impl_Item (rd items i) := by
          have := rdApR ((takeS items p log i).take (p + i)) (n_impl_Item (rd items i))
          rw [hlen] at this; exact this
        show gi (rd ((takeS items p log i).take (p + i) ++ [n_impl_Item (rd items i)]) (p + i)) 0 = _
        rw [e]; rfl
    simp only [takeS]
    by_cases c : p + i < (takeS items p log i).length
    · rw [decide_eq_true c]
      by_cases e : gi (rd (takeS items p log i) (p + i)) 0 = gi (rd items i) 0
      · rw [decide_eq_true e]
        refine ⟨h1, ?_⟩
        show termL (takeS items p log i) (p + (i + 1)) = _
        unfold termL
        rw [decide_eq_true (show 1 ≤ p + (i + 1) ∧ p + (i + 1) ≤ (takeS items p log i).length by omega), c4]
        exact e
      · rw [decide_eq_false e]; exact put
    · rw [decide_eq_false c]
      have e : takeS items p log i = (takeS items p log i).take (p + i) := by rw [List.take_of_length_le]; omega
      rw [← e] at put; exact put
theorem takeS_keep {items log : List V} {p c : Nat} (hp : p ≤ log.length) (hc : c ≤ log.length) (hk : ∀ i, i < items.length → p + i < c → gi (rd log (p + i)) 0 = gi (rd items i) 0) :
    ∀ i, i ≤ items.length → c ≤ (takeS items p log i).length ∧ ∀ j, j < c → rd (takeS items p log i) j = rd log j
  | 0, _ => ⟨hc, fun _ _ => rfl⟩
  | i + 1, h => by
    obtain ⟨h1, h2⟩ := takeS_keep hp hc hk i (by omega)
    obtain ⟨b1, b2⟩ := takeS_len (items := items) hp i
    simp only [takeS]
    by_cases d : p + i < (takeS items p log i).length
    · rw [decide_eq_true d]
      by_cases e : gi (rd (takeS items p log i) (p + i)) 0 = gi (rd items i) 0
      · rw [decide_eq_true e]; exact ⟨h1, h2⟩
      · rw [decide_eq_false e]
        have hcp : c ≤ p + i := by
          rcases Nat.lt_or_ge (p + i) c with h' | h'
          · rw [h2 _ h'] at e; exact absurd (hk i (by omega) h') e
          · exact h'
        have hlen : ((takeS items p log i).take (p + i)).length = p + i := by rw [List.length_take]; omega
        refine ⟨?_, fun j hj => ?_⟩
        · show c ≤ ((takeS items p log i).take (p + i) ++ [n_impl_Item (rd items i)]).length
          rw [List.length_append, hlen]; omega
        · show rd ((takeS items p log i).take (p + i) ++ [n_impl_Item (rd items i)]) j = _
          rw [rdApL (by omega), rdTake (by omega)]; exact h2 j hj
    · rw [decide_eq_false d]
      refine ⟨?_, fun j hj => ?_⟩
      · show c ≤ (takeS items p log i ++ [n_impl_Item (rd items i)]).length
        rw [List.length_append]; omega
      · show rd (takeS items p log i ++ [n_impl_Item (rd items i)]) j = _
        rw [rdApL (by omega)]; exact h2 j hj
theorem MsgP.item {m : V} (h : MsgP m) {i : Nat} (hi : i < (gl m 6).length) : itemB (rd (gl m 6) i) = true ∧ ptm m i ≤ gi (rd (gl m 6) i) 0 ∧ gi (rd (gl m 6) i) 0 ≤ gi m 3 := by
  have := List.all_eq_true.1 h.items i (List.mem_range.2 hi)
  simp only [stepM, Bool.and_eq_true, decide_eq_true_eq] at this
  exact this
structure Post (s : ND) (k : Int) (x : ND) (l : List V) : Prop where
  vp : VP x k
  term : s.term ≤ x.term
  com : s.commit ≤ x.commit
  id : x.id = s.id
  vote : x.term = s.term → 0 ≤ s.vote → x.vote = s.vote
  keep : ∀ j : Nat, (j : Int) < s.commit → rd x.log j = rd s.log j
  msgs : ∀ a ∈ l, MsgP a ∧ gi a 1 = s.id ∧ gi a 3 = x.term
  back : x.role = 2 → s.commit < x.commit → termL x.log x.commit.toNat = x.term ∧ (k < 2 * ((cntGe x.commit x.mtch : Nat) : Int)) ∧ gi (rd x.mtch x.id.toNat) 0 = (x.log.length : Int)
theorem Post.up {s : ND} {k t : Int} {x : ND} {l : List V} (h : Post (s.fol t) k x l) (ht : s.term < t) : Post s k x l := by
  have e1 : (s.fol t).term = t := by rw [fol_eq, decide_eq_true ht]; rfl
  have e2 := fol_commit s t
  have e3 := fol_id s t
  have e4 := fol_log s t
  have a := h.term
  rw [e1] at a
  exact ⟨h.vp, by omega, by rw [← e2]; exact h.com, h.id.trans e3, fun e => by omega, fun j hj => by rw [h.keep j (by rw [e2]; exact hj), e4], fun m hm => by rw [← e3]; exact h.msgs m hm, fun r hc => h.back r (by rw [e2]; exact hc)⟩
theorem ans_vote {s : ND} {k : Int} (h : VP s k) {m : V} (hp : MsgP m) (hto : gi m 2 = s.id) (ht : ¬ s.term < gi m 3) (y : Bool) : MsgP (ansM 1 s (gi m 1) 0 y) := by
  have k5 := h.k5; have ik := h.idk; have t1 := hp.term1
  exact ⟨(by decide : (0 : Int) ≤ 1), (by decide : (1 : Int) ≤ 3), h.id0, by show s.id < 5; omega, hp.from0, hp.from4, by show s.id ≠ gi m 1; have := hp.ne; omega, by show 1 ≤ s.term; omega, h.term1, (by decide : (0 : Int) ≤ 0), (by decide : (0 : Int) ≤ 400), (by decide : (0 : Int) ≤ 0), by show 0 ≤ s.term; omega, (by decide : (0 : Int) ≤ 0), (by decide : (0 : Int) ≤ 400), by show (((([] : List V).length : Nat)) : Int) ≤ 4; simp, by show (((([] : List V).length : Nat)) : Int) ≤ 400 - 0; simp, fun e => e.elim (fun e => absurd (show (1 : Int) = 0 from e) (by decide)) (fun e => absurd (show (1 : Int) = 2 from e) (by decide)), rfl, fun e => absurd (show (1 : Int) = 0 from e) (by decide), fun _ => ⟨rfl, rfl, rfl, rfl⟩, fun e => absurd (show (1 : Int) = 2 from e) (by decide), fun e => absurd (show (1 : Int) = 3 from e) (by decide)⟩
theorem ans_ack {s : ND} {k : Int} (h : VP s k) {m : V} (hp : MsgP m) (hto : gi m 2 = s.id) (ht : ¬ s.term < gi m 3) {q : Int} (q0 : 0 ≤ q) (q1 : q ≤ 400) (y : Bool) : MsgP (ansM 3 s (gi m 1) q y) := by
  have k5 := h.k5; have ik := h.idk; have t1 := hp.term1
  exact ⟨(by decide : (0 : Int) ≤ 3), (by decide : (3 : Int) ≤ 3), h.id0, by show s.id < 5; omega, hp.from0, hp.from4, by show s.id ≠ gi m 1; have := hp.ne; omega, by show 1 ≤ s.term; omega, h.term1, q0, q1, (by decide : (0 : Int) ≤ 0), by show 0 ≤ s.term; omega, (by decide : (0 : Int) ≤ 0), (by decide : (0 : Int) ≤ 400), by show (((([] : List V).length : Nat)) : Int) ≤ 4; simp, by show (((([] : List V).length : Nat)) : Int) ≤ 400 - q; simp; omega, fun e => e.elim (fun e => absurd (show (3 : Int) = 0 from e) (by decide)) (fun e => absurd (show (3 : Int) = 2 from e) (by decide)), rfl, fun e => absurd (show (3 : Int) = 0 from e) (by decide), fun e => absurd (show (3 : Int) = 1 from e) (by decide), fun e => absurd (show (3 : Int) = 2 from e) (by decide), fun _ => ⟨rfl, rfl, rfl⟩⟩
theorem VP.addOk {s : ND} {k : Int} (h : VP s k) (r : s.role = 2) {j : Nat} (hj : (j : Int) < k) (hne : (j : Int) ≠ s.id) : MsgP (addN s.v j) ∧ gi (addN s.v j) 1 = s.id ∧ gi (addN s.v j) 3 = s.term ∧ gi (addN s.v j) 4 = gi (rd s.next j) 0 - 1 := by
  have k5 := h.k5; have ik := h.idk; have i0 := h.id0; have hl := h.len
  have e1 := h.lnext
  obtain ⟨t1, -⟩ := h.stands (by omega)
  obtain ⟨n1, n2, m1, m2⟩ := h.lead r j (by omega)
  have hP : prevN s.v j = (gi (rd s.next j) 0 - 1).toNat := rfl
  have hPl : prevN s.v j ≤ s.log.length := by omega
  generalize hPe : prevN s.v j = P at *
  have hit : (itemsN s.v P).length ≤ 4 ∧ (itemsN s.v P).length + P ≤ s.log.length ∧ ∀ i, i < (itemsN s.v P).length → rd (itemsN s.v P) i = n_impl_Item (rd s.log (P + i)) := by
    have e : (itemsN s.v P).length = min 4 (s.log.length - P) := by
      show (((s.log.drop P).take 4).map n_impl_Item).length = _
      rw [List.length_map, List.length_take, List.length_drop]
    refine ⟨by omega, by omega, fun i hi => ?_⟩
    rw [e] at hi
    show rd (((s.log.drop P).take 4).map n_impl_Item) i = _
    rw [rdMap (by rw [List.length_take, List.length_drop]; exact hi), rdTake (by omega), rd_drop]
  obtain ⟨i1, i2, i3⟩ := hit
  have hm4 : gi (addN s.v j) 4 = (P : Int) := by show ((prevN s.v j : Nat) : Int) = _; rw [hPe]
  have hm5 : gi (addN s.v j) 5 = termL s.log P := by show termN s.v (prevN s.v j) = _; rw [hPe]; rfl
  have hm6 : gl (addN s.v j) 6 = itemsN s.v P := by show itemsN s.v (prevN s.v j) = _; rw [hPe]
  have hT := h.log.termL P hPl
  refine ⟨⟨(by decide : (0 : Int) ≤ 2), (by decide : (2 : Int) ≤ 3), i0, by show s.id < 5; omega, by show (0 : Int) ≤ (j : Int); omega, by show (j : Int) < 5; omega, by show s.id ≠ (j : Int); omega, t1, h.term1, by rw [hm4]; omega, by rw [hm4]; omega, by rw [hm5]; omega, ?_, h.com0, by show s.commit ≤ 400; have := h.com1; omega, by rw [hm6]; omega, by rw [hm6, hm4]; omega, fun _ => by rw [hm4, hm5]; omega, ?_, fun e => absurd (show (2 : Int) = 0 from e) (by decide), fun e => absurd (show (2 : Int) = 1 from e) (by decide), fun _ => rfl, fun e => absurd (show (2 : Int) = 3 from e) (by decide)⟩, rfl, rfl, ?_⟩
  · rw [hm5]; show termL s.log P ≤ s.term; omega
  · unfold itemsOkB
    rw [hm6]
    refine List.all_eq_true.2 fun i hi => ?_
    have hi := List.mem_range.1 hi
    unfold stepM
    rw [hm6, i3 i hi]
    have hpi : P + i < s.log.length := by omega
    rw [show itemB (n_impl_Item (rd s.log (P + i))) = itemB (rd s.log (P + i)) from rfl, h.log.ok _ hpi, show gi (n_impl_Item (rd s.log (P + i))) 0 = gi (rd s.log (P + i)) 0 from rfl, decide_eq_true (show gi (rd s.log (P + i)) 0 ≤ gi (addN s.v j) 3 from h.log.le _ hpi)]
    have : ptm (addN s.v j) i ≤ gi (rd s.log (P + i)) 0 := by
      cases i with
      | zero =>
        show gi (addN s.v j) 5 ≤ _
        rw [hm5]
        rcases hT with ⟨c, d⟩ | ⟨c, d, -, -⟩
        · rw [d]; have := (itemB_t1 (h.log.ok _ hpi)).1; omega
        · rw [d]
          have := h.log.mono (P - 1) (by omega)
          rw [show P - 1 + 1 = P from by omega] at this
          exact this
      | succ i =>
        rw [ptm_succ, hm6, i3 i (by omega)]
        exact h.log.mono (P + i) (by omega)
    rw [decide_eq_true this]; rfl
  · rw [hm4]; omega
theorem VP.all {s : ND} {k : Int} (h : VP s k) (r : s.role = 2) : ∀ a ∈ msgsN s.v s.votes.length, MsgP a ∧ gi a 1 = s.id ∧ gi a 3 = s.term := by
  intro a ha
  unfold msgsN at ha
  obtain ⟨j, hj, rfl⟩ := List.mem_map.1 ha
  obtain ⟨h1, h2⟩ := List.mem_filter.1 hj
  have h1 := List.mem_range.1 h1
  have hne : (j : Int) ≠ s.id := by
    have := not_of h2; exact this
  have hv := h.lvotes
  obtain ⟨q1, q2, q3, -⟩ := h.addOk r (j := j) (by omega) hne
  exact ⟨q1, q2, q3⟩
theorem scanC_at (s : ND) (c : Nat) : ∀ j, scanC s c j = c ∨ (termL s.log (scanC s c j) = s.term ∧ (s.votes.length : Int) < 2 * ((cntGe ((scanC s c j : Nat) : Int) s.mtch : Nat) : Int))
  | 0 => .inl rfl
  | j + 1 => by
    have ih := scanC_at s c j
    simp only [scanC]
    cases hb : (decide (termL s.log (c + (j + 1)) = s.term) && decide ((s.votes.length : Int) < 2 * ((cntGe (((c + (j + 1) : Nat)) : Int) s.mtch : Nat) : Int))) with
    | false => exact ih
    | true =>
      simp only [Bool.and_eq_true, decide_eq_true_eq] at hb
      exact .inr hb
theorem adv_back {s : ND} {k : Int} (h : VP s k) : s.commit < s.adv.commit → termL s.adv.log s.adv.commit.toNat = s.adv.term ∧ (k < 2 * ((cntGe s.adv.commit s.adv.mtch : Nat) : Int)) ∧ gi (rd s.adv.mtch s.adv.id.toNat) 0 = (s.adv.log.length : Int) := by
  intro hc
  have c0 := h.com0; have i0 := h.id0; have ik := h.idk; have e2 := h.lmatch
  rcases scanC_at s.mark s.commit.toNat (s.log.length - s.commit.toNat) with e | ⟨e, f⟩
  · have : s.adv.commit = ((scanC s.mark s.commit.toNat (s.log.length - s.commit.toNat) : Nat) : Int) := rfl
    omega
  · refine ⟨e, ?_, ?_⟩
    · rw [← h.lvotes]; exact f
    · show gi (rd (s.mtch.set s.id.toNat (V.int .i64 ((s.log.length : Nat) : Int))) s.id.toNat) 0 = ((s.log.length : Nat) : Int)
      rw [rd_set_eq (by omega)]; rfl
theorem Post.stay {s : ND} {k : Int} (h : VP s k) : Post s k s [] :=
  ⟨h, Int.le_refl _, Int.le_refl _, rfl, fun _ _ => rfl, fun _ _ => rfl, fun _ ha => (by cases ha), fun _ hc => absurd hc (Int.lt_irrefl _)⟩
theorem VP.askPost {s : ND} {k : Int} (h : VP s k) {m : V} (hp : MsgP m) (hk : gi m 1 < k) (hto : gi m 2 = s.id) (ht : ¬ s.term < gi m 3) : Post s k (askR s m).1 (askR s m).2 := by
  have v := h.ask hp hk
  have hl : ∀ a ∈ (askR s m).2, a = ansM 1 s (gi m 1) 0 (yesB s m) := fun a ha => List.mem_singleton.1 ha
  have ha : ∀ a ∈ (askR s m).2, MsgP a ∧ gi a 1 = s.id ∧ gi a 3 = s.term := fun a hm => by
    rw [hl a hm]; exact ⟨ans_vote h hp hto ht _, rfl, rfl⟩
  revert v ha
  unfold askR
  cases hy : yesB s m with
  | false => exact fun v ha => ⟨v, Int.le_refl _, Int.le_refl _, rfl, fun _ _ => rfl, fun _ _ => rfl, ha, fun _ hc => absurd hc (Int.lt_irrefl _)⟩
  | true =>
    simp only [yesB, Bool.and_eq_true, Bool.or_eq_true, decide_eq_true_eq] at hy
    refine fun v ha => ⟨v, Int.le_refl _, Int.le_refl _, rfl, fun _ h0 => ?_, fun _ _ => rfl, ha, fun _ hc => absurd hc (Int.lt_irrefl _)⟩
    show gi m 1 = s.vote
    rcases hy.2.2.1 with e | e <;> omega
theorem VP.votePost {s : ND} {k : Int} (h : VP s k) (m : V) : Post s k (voteR s m).1 (voteR s m).2 := by
  unfold voteR
  by_cases r1 : s.role = 1
  case neg => rw [decide_eq_false r1]; exact Post.stay h
  rw [decide_eq_true r1]
  cases hq : decide (gi m 3 = s.term) && gb m 8 with
  | false => exact Post.stay h
  | true =>
    simp only [Bool.true_and, cond_true]
    have he := h.elec r1 m
    cases mostB (elect s m) with
    | false => exact ⟨he, Int.le_refl _, Int.le_refl _, rfl, fun _ _ => rfl, fun _ _ => rfl, fun _ ha => (by cases ha), fun _ hc => absurd hc (Int.lt_irrefl _)⟩
    | true =>
      have hL := he.lead' (show s.role ≠ 0 by omega)
      have hA := hL.adv rfl
      have a1 : s.commit ≤ (elect s m).lead'.adv.commit := adv_commit (s := (elect s m).lead') h.com0
      refine ⟨hA, Int.le_refl _, a1, rfl, fun _ _ => rfl, fun j hj => ?_, hA.all rfl, fun _ hc => adv_back hL hc⟩
      have hc1 := h.com1
      show rd (bif decide (((s.log.length : Nat) : Int) < 400) then s.log ++ [noopI s.term] else s.log) j = _
      cases decide (((s.log.length : Nat) : Int) < 400) with
      | true => exact rdApL (by omega)
      | false => rfl
theorem VP.tk {s : ND} {k : Int} (h : VP s k) {m : V} (hp : MsgP m) (hk : gi m 1 < k) (ht : gi m 3 = s.term) {p : Nat} (hpp : gi m 4 = (p : Int)) (hpl : p ≤ s.log.length) (hpt : termL s.log p = gi m 5)
    (hst : (List.range (gl m 6).length).all (stepC (s.hd m) (gl m 6) p) = true) : VP ((s.hd m).tk m p) k ∧ s.commit ≤ ((s.hd m).tk m p).commit ∧ ∀ j : Nat, (j : Int) < s.commit → rd ((s.hd m).tk m p).log j = rd s.log j := by
  have g := h.hd hp hk
  have hc0 := h.com0; have hc1 := h.com1; have hl := h.len; have hlP := hp.lenP; have c0 := hp.com0; have cM := hp.comM
  have hlg : (s.hd m).log = s.log := fol_log s _
  have hcm : (s.hd m).commit = s.commit := fol_commit s _
  have htm : (s.hd m).term = s.term := fol_term (by omega)
  have r0 : (s.hd m).role = 0 := by show (s.fol (gi m 3)).role = 0; rw [fol_eq]
  have q1 := takeS_P (items := gl m 6) (p := p) (pt := ptm m) h.log hpl (by rw [hpt]; rfl) (fun i hi => by
    obtain ⟨a, b, c⟩ := hp.item hi
    exact ⟨a, b, by omega, ptm_succ m i⟩) (gl m 6).length (Nat.le_refl _)
  have q2 := takeS_keep (items := gl m 6) (p := p) (c := s.commit.toNat) hpl (by omega) (fun i hi hlt => by
    have := List.all_eq_true.1 hst i (List.mem_range.2 hi)
    rw [stepC, hcm, hlg, decide_eq_true (show ((p + i : Nat) : Int) < s.commit by omega)] at this
    simpa using this) (gl m 6).length (Nat.le_refl _)
  have q3 := takeS_len (items := gl m 6) hpl (gl m 6).length
  have elog : ((s.hd m).tk m p).log = takeS (gl m 6) p s.log (gl m 6).length := by show takeS (gl m 6) p (s.hd m).log (gl m 6).length = _; rw [hlg]
  have ecom : ((s.hd m).tk m p).commit = mxI s.commit (mnI (gi m 7) ((p + (gl m 6).length : Nat) : Int)) := by show mxI (s.hd m).commit _ = _; rw [hcm]
  have hcl : ((s.hd m).tk m p).commit ≤ ((takeS (gl m 6) p s.log (gl m 6).length).length : Int) ∧ s.commit ≤ ((s.hd m).tk m p).commit := by
    rw [ecom]; unfold mxI mnI
    constructor <;> (split <;> (try split) <;> omega)
  refine ⟨⟨g.k1, g.k5, g.id0, g.idk, g.term0, g.term1, g.vote0, g.votek, g.lead0, g.leadk, by rw [elog]; omega, by omega, by rw [elog]; exact hcl.1, g.role0, g.role2, g.wait0, g.wait1, g.lvotes, g.lnext, g.lmatch, by rw [elog]; show LogP _ (s.hd m).term; rw [htm]; exact q1.1, fun e => absurd (r0.symm.trans e) (by decide), g.idle, g.unv, g.stands, g.leads⟩, hcl.2, fun j hj => ?_⟩
  rw [elog]; exact q2.2 j (by omega)
theorem VP.tellPost {s : ND} {k : Int} (h : VP s k) {m : V} (hp : MsgP m) (h2 : gi m 0 = 2) (hk : gi m 1 < k) (hto : gi m 2 = s.id) (ht : ¬ s.term < gi m 3) : Post s k (tellR s m (gi m 4).toNat).1 (tellR s m (gi m 4).toNat).2 := by
  have p0 := hp.prev0; have pM := hp.prevM; have hl := h.len; have c0 := h.com0; have c1 := h.com1; have hlP := hp.lenP; have hz := hp.zero (.inr h2)
  have eT := takeR_term (p := (gi m 4).toNat) ht
  have mk : ∀ (q : Int) (y : Bool) (x : ND), (takeR s m (gi m 4).toNat) = (q, y, x) → VP x k → s.commit ≤ x.commit → x.id = s.id → x.vote = s.vote ∨ s.vote < 0 → (∀ j : Nat, (j : Int) < s.commit → rd x.log j = rd s.log j) → (x.role = 2 → ¬ s.commit < x.commit) → 0 ≤ q → q ≤ 400 → Post s k (tellR s m (gi m 4).toNat).1 (tellR s m (gi m 4).toNat).2 := by
    intro q y x e v hc hi hv hkp hb q0 q1
    rw [e] at eT
    have eT : x.term = s.term := eT
    unfold tellR
    rw [e]
    refine ⟨v, by show s.term ≤ x.term; omega, hc, hi, fun _ h0 => ?_, hkp, fun a ha => ?_, fun r hc => absurd hc (hb r)⟩
    · rcases hv with hv | hv
      · exact hv
      · omega
    · rw [List.mem_singleton.1 ha]
      exact ⟨ans_ack h hp hto ht q0 q1 y, rfl, eT.symm⟩
  have hhd := h.hd hp hk
  have r0 : (s.hd m).role = 0 := by show (s.fol (gi m 3)).role = 0; rw [fol_eq]
  have hvote : (s.hd m).vote = s.vote := by show (s.fol (gi m 3)).vote = _; rw [fol_eq, decide_eq_false ht]; rfl
  have hstay : ∀ (q : Int), (takeR s m (gi m 4).toNat) = (q, false, s.hd m) → 0 ≤ q → q ≤ 400 → Post s k (tellR s m (gi m 4).toNat).1 (tellR s m (gi m 4).toNat).2 := fun q e q0 q1 =>
    mk q false _ e hhd (by show s.commit ≤ (s.fol (gi m 3)).commit; rw [fol_commit]; exact Int.le_refl _) (fol_id s _) (.inl hvote) (fun j _ => by show rd (s.fol (gi m 3)).log j = _; rw [fol_log]) (fun r => absurd (r0.symm.trans r) (by decide)) q0 q1
  by_cases b1 : gi m 3 < s.term
  · refine mk 0 false s ?_ h (Int.le_refl _) rfl (.inl rfl) (fun _ _ => rfl) (fun _ => Int.lt_irrefl _) (Int.le_refl _) (by decide)
    unfold takeR; rw [decide_eq_true b1]; rfl
  by_cases b2 : s.role = 2
  · refine mk 0 false s ?_ h (Int.le_refl _) rfl (.inl rfl) (fun _ _ => rfl) (fun _ => Int.lt_irrefl _) (Int.le_refl _) (by decide)
    unfold takeR; rw [decide_eq_false b1, decide_eq_true b2]; rfl
  by_cases b3 : ((s.log.length : Nat) : Int) < gi m 4
  · refine hstay ((s.log.length : Nat) : Int) ?_ (by omega) (by omega)
    unfold takeR; rw [decide_eq_false b1, decide_eq_false b2, decide_eq_true b3]; rfl
  by_cases b4 : termL s.log (gi m 4).toNat = gi m 5
  case neg =>
    refine hstay (gi m 4 - 1) ?_ ?_ (by omega)
    · unfold takeR; rw [decide_eq_false b1, decide_eq_false b2, decide_eq_false b3, decide_eq_false b4]; rfl
    · by_cases z : gi m 4 = 0
      · exfalso; apply b4
        rw [hz.1 z, z]; rfl
      · omega
  cases b5 : (List.range (gl m 6).length).all (stepC (s.hd m) (gl m 6) (gi m 4).toNat) with
  | false =>
    refine hstay s.commit ?_ c0 (by omega)
    unfold takeR; rw [decide_eq_false b1, decide_eq_false b2, decide_eq_false b3, decide_eq_true b4, b5]; rfl
  | true =>
    obtain ⟨v1, v2, v3⟩ := h.tk hp hk (by omega) (p := (gi m 4).toNat) (by omega) (by omega) b4 b5
    refine mk (((gi m 4).toNat + (gl m 6).length : Nat) : Int) true _ ?_ v1 v2 (fol_id s _) (.inl hvote) v3 (fun r => absurd (r0.symm.trans r) (by decide)) (by omega) (by omega)
    unfold takeR; rw [decide_eq_false b1, decide_eq_false b2, decide_eq_false b3, decide_eq_true b4, b5]; rfl
theorem VP.ackPost {s : ND} {k : Int} (h : VP s k) {m : V} (hp : MsgP m) {j : Nat} (hj : (j : Int) < k) (hne : (j : Int) ≠ s.id) : Post s k (ackR s m j).1 (ackR s m j).2 := by
  have p0 := hp.prev0; have c0 := h.com0; have e1 := h.lnext; have e3 := h.lvotes
  unfold ackR
  by_cases r2 : s.role = 2
  case neg => rw [decide_eq_false r2]; exact Post.stay h
  rw [decide_eq_true r2]
  cases decide (gi m 3 = s.term) with
  | false => exact Post.stay h
  | true =>
    cases gb m 8 with
    | false =>
      obtain ⟨n1, n2, -, -⟩ := h.lead r2 j (by omega)
      have hq : 1 ≤ mxI 1 (mnI (gi (rd s.next j) 0 - 1) (gi m 4 + 1)) ∧ mxI 1 (mnI (gi (rd s.next j) 0 - 1) (gi m 4 + 1)) ≤ (s.log.length : Int) + 1 := by
        unfold mxI mnI; split <;> (try split) <;> omega
      show Post s k (backR s j _).1 (backR s j _).2
      unfold backR
      cases decide (gi (rd s.mtch j) 0 < mxI 1 (mnI (gi (rd s.next j) 0 - 1) (gi m 4 + 1))) with
      | false => exact Post.stay h
      | true =>
        have v := h.setN r2 (j := j) hq.1 hq.2
        refine ⟨v, Int.le_refl _, Int.le_refl _, rfl, fun _ _ => rfl, fun _ _ => rfl, fun a ha => ?_, fun _ hc => absurd hc (Int.lt_irrefl _)⟩
        rw [List.mem_singleton.1 ha]
        obtain ⟨z1, z2, z3, -⟩ := v.addOk r2 hj hne
        exact ⟨z1, z2, z3⟩
    | true =>
      by_cases hl' : ((s.log.length : Nat) : Int) < gi m 4
      · rw [decide_eq_true hl']; exact Post.stay h
      rw [decide_eq_false hl']
      cases decide (gi m 4 ≤ gi (rd s.mtch j) 0) with
      | true => exact Post.stay h
      | false =>
        have hG := h.got r2 (j := j) p0 (by omega)
        have hA := hG.adv r2
        have a1 : s.commit ≤ (s.got j (gi m 4)).adv.commit := adv_commit (s := s.got j (gi m 4)) c0
        have mk : ∀ l : List V, (∀ a ∈ l, MsgP a ∧ gi a 1 = s.id ∧ gi a 3 = s.term) → Post s k (s.got j (gi m 4)).adv l := fun l hl =>
          ⟨hA, Int.le_refl _, a1, rfl, fun _ _ => rfl, fun _ _ => rfl, hl, fun _ hc => adv_back hG hc⟩
        show Post s k (gotR s j (gi m 4)).1 (gotR s j (gi m 4)).2
        unfold gotR
        cases decide ((s.got j (gi m 4)).adv.commit = s.commit) with
        | false => exact mk _ (hA.all r2)
        | true =>
          cases decide (gi (rd (s.got j (gi m 4)).adv.next j) 0 ≤ ((s.log.length : Nat) : Int)) with
          | false => exact mk _ fun _ ha => (by cases ha)
          | true =>
            refine mk _ fun a ha => ?_
            rw [List.mem_singleton.1 ha]
            obtain ⟨z1, z2, z3, -⟩ := hA.addOk r2 hj hne
            exact ⟨z1, z2, z3⟩
def hearR (s : ND) (m : V) : ND × List V :=
  bif decide (gi m 0 = 0) then askR s m else bif decide (gi m 0 = 1) then voteR s m else bif decide (gi m 0 = 2) then tellR s m (gi m 4).toNat else ackR s m (gi m 1).toNat
def hearF (s : ND) (m : V) : ND × List V := bif decide (s.term < gi m 3) then hearR (s.fol (gi m 3)) m else hearR s m
theorem VP.hearR {s : ND} {k : Int} (h : VP s k) {m : V} (hp : MsgP m) (hk : gi m 1 < k) (hto : gi m 2 = s.id) (ht : ¬ s.term < gi m 3) : Post s k (hearR s m).1 (hearR s m).2 := by
  have f0 := hp.from0; have hne := hp.ne
  unfold Go.Eng.R.hearR
  by_cases h0 : gi m 0 = 0
  · rw [decide_eq_true h0]; exact h.askPost hp hk hto ht
  rw [decide_eq_false h0]
  by_cases h1 : gi m 0 = 1
  · rw [decide_eq_true h1]; exact h.votePost m
  rw [decide_eq_false h1]
  by_cases h2 : gi m 0 = 2
  · rw [decide_eq_true h2]; exact h.tellPost hp h2 hk hto ht
  rw [decide_eq_false h2]
  exact h.ackPost hp (j := (gi m 1).toNat) (by omega) (by omega)
theorem VP.hearF {s : ND} {k : Int} (h : VP s k) {m : V} (hp : MsgP m) (hk : gi m 1 < k) (hto : gi m 2 = s.id) : Post s k (hearF s m).1 (hearF s m).2 := by
  unfold Go.Eng.R.hearF
  by_cases ht : s.term < gi m 3
  · rw [decide_eq_true ht]
    refine Post.up ((h.fol hp.termM).hearR hp hk (by rw [fol_id]; exact hto) ?_) ht
    rw [fol_eq, decide_eq_true ht]; show ¬ gi m 3 < gi m 3; omega
  · rw [decide_eq_false ht]; exact h.hearR hp hk hto ht
theorem impl_hearR {s : ND} (h : HOk s) {m : V} (hm : W_Msg m) (hz : z_Msg m ≤ 1048576) (hp : MsgP m) (hM : n_impl_Msg m = m) (hto : gi m 2 = s.id) (hfr : gi m 1 < (s.votes.length : Int)) (ht : ¬ s.term < gi m 3) :
    impl_server_hear (s.sv []) m = some ((hearR s m).1.sv (hearR s m).2) ∧ StepOk' (hearR s m).1 (hearR s m).2 := by
  have f0 := hp.from0; have hne := hp.ne; have k0 := hp.kind0; have k3 := hp.kind3
  unfold hearR
  by_cases h0 : gi m 0 = 0
  · rw [decide_eq_true h0]; exact ⟨impl_hear_ask h h0 ht, h.ask hm⟩
  rw [decide_eq_false h0]
  by_cases h1 : gi m 0 = 1
  · rw [decide_eq_true h1]; exact ⟨impl_hear_vote h h1 ht f0 hfr, h.vote m⟩
  rw [decide_eq_false h1]
  by_cases h2 : gi m 0 = 2
  · rw [decide_eq_true h2]; exact ⟨impl_hear_tell h hm hz hp hM h2 ht, h.tell hm hz hp⟩
  rw [decide_eq_false h2]
  have hj : (gi m 1).toNat < s.votes.length := by omega
  have hjn : (((gi m 1).toNat : Nat) : Int) ≠ s.id := by omega
  have e2 := impl_ack_eq h hp hj hjn (by omega)
  refine ⟨?_, h.ackOk hp hj hjn⟩
  unfold impl_server_hear
  rw [show gi (s.sv []) 1 = s.term from rfl, decide_eq_false ht]
  simp only [cond_false, h0, h1, h2, decide_false, hM, show n_impl_server (s.sv []) = s.sv [] from rfl, e2, Option.bind_some]
  rfl
theorem impl_hearF {s : ND} (h : HOk s) {m : V} (hm : W_Msg m) (hz : z_Msg m ≤ 1048576) (hp : MsgP m) (hM : n_impl_Msg m = m) (hto : gi m 2 = s.id) (hfr : gi m 1 < (s.votes.length : Int)) :
    impl_server_hear (s.sv []) m = some ((hearF s m).1.sv (hearF s m).2) ∧ StepOk' (hearF s m).1 (hearF s m).2 := by
  unfold hearF
  by_cases ht : s.term < gi m 3
  · rw [decide_eq_true ht, impl_hear_fol ht]
    refine impl_hearR (h.fol (t := gi m 3) (by have := hp.term1; omega) hp.termM) hm hz hp hM (by rw [fol_id]; exact hto) ?_ ?_
    · rw [fol_eq]; dsimp only; rw [List.length_replicate]; exact hfr
    · rw [fol_eq, decide_eq_true ht]; show ¬ gi m 3 < gi m 3; omega
  · rw [decide_eq_false ht]; exact impl_hearR h hm hz hp hM hto hfr ht
theorem impl_Hear_no {n m : V} (hn : W_Node n) (hm : W_Msg m) {k : Int} (hk : I64 k) (h : ¬ (NodeP n k ∧ MsgP (n_impl_Msg m) ∧ gi m 2 = gi n 0 ∧ gi m 1 < k)) : impl_Hear (n_impl_Node n) k (n_impl_Msg m) = some (zeroN, []) := by
  unfold impl_Hear
  simp only [show n_impl_Node (n_impl_Node n) = n_impl_Node n from rfl, show n_impl_Msg (n_impl_Msg m) = n_impl_Msg m from rfl, impl_NodeOk_eq hn k hk, impl_MsgOk_eq hm, Option.bind_some, show gi (n_impl_Msg m) 2 = gi m 2 from rfl, show gi (n_impl_Msg m) 1 = gi m 1 from rfl, show gi (n_impl_Node n) 0 = gi n 0 from rfl]
  cases hb : nodeB n k with
  | false => rfl
  | true =>
  cases hcb : msgB m with
  | false => rfl
  | true =>
    by_cases hto : gi m 2 = gi n 0
    case neg => rw [decide_eq_false hto]; rfl
    by_cases hfr : k ≤ gi m 1
    · rw [decide_eq_true hto, decide_eq_true hfr]; rfl
    exfalso
    refine h ⟨by simpa [nodeB] using hb, ?_, hto, by omega⟩
    have q := msgB_p hcb
    exact ⟨q.kind0, q.kind3, q.from0, q.from4, q.to0, q.to4, q.ne, q.term1, q.termM, q.prev0, q.prevM, q.pt0, q.ptT, q.com0, q.comM, q.len4, q.lenP, q.zero, q.items, q.ask, q.vote, q.add, q.ack⟩
theorem impl_Hear_yes {n m : V} (hn : W_Node n) (hm : W_Msg m) (hz : zS z_Item (gl n 3) ≤ 1048576) (hzm : z_Msg m ≤ 1048576) {k : Int} (hk : I64 k) (hp : NodeP n k) (hmp : MsgP (n_impl_Msg m)) (hto : gi m 2 = gi n 0) (hfr : gi m 1 < k) :
    impl_Hear (n_impl_Node n) k (n_impl_Msg m) = some ((hearF (ownD n) (n_impl_Msg m)).1.v, (hearF (ownD n) (n_impl_Msg m)).2) ∧ StepOk' (hearF (ownD n) (n_impl_Msg m)).1 (hearF (ownD n) (n_impl_Msg m)).2 := by
  have h8 := hp.lvotes; have h9 := hp.lnext; have h10 := hp.lmatch; have hk5 := hp.k5
  have ei := impl_own_eq hn (by omega) (show (gl n 8).length ≤ 1000 by omega) (show (gl n 9).length ≤ 1000 by omega) (show (gl n 10).length ≤ 1000 by omega)
  have ho := own_ok hn hz hp
  obtain ⟨e2, e3⟩ := impl_hearF ho.hOk (m := n_impl_Msg m) hm hzm hmp rfl (show gi m 2 = gi n 0 from hto) (show gi m 1 < (((gl n 8).length : Nat) : Int) by omega)
  refine ⟨?_, e3⟩
  have hb : nodeB n k = true := by simpa [nodeB] using hp
  have hcb : msgB m = true := msgB_true ⟨hmp.kind0, hmp.kind3, hmp.from0, hmp.from4, hmp.to0, hmp.to4, hmp.ne, hmp.term1, hmp.termM, hmp.prev0, hmp.prevM, hmp.pt0, hmp.ptT, hmp.com0, hmp.comM, hmp.len4, hmp.lenP, hmp.zero, hmp.items, hmp.ask, hmp.vote, hmp.add, hmp.ack⟩
  unfold impl_Hear
  simp only [show n_impl_Node (n_impl_Node n) = n_impl_Node n from rfl, show n_impl_Msg (n_impl_Msg m) = n_impl_Msg m from rfl, impl_NodeOk_eq hn k hk, impl_MsgOk_eq hm, Option.bind_some, show gi (n_impl_Msg m) 2 = gi m 2 from rfl, show gi (n_impl_Msg m) 1 = gi m 1 from rfl, show gi (n_impl_Node n) 0 = gi n 0 from rfl, hb, hcb]
  rw [decide_eq_true hto, decide_eq_false (show ¬ k ≤ gi m 1 by omega)]
  simp only [Bool.not_true, cond_false, ei, Option.bind_some]
  refine Eq.trans (congrArg (fun o => Option.bind o _) (show _ = some ((hearF (ownD n) (n_impl_Msg m)).1.sv (hearF (ownD n) (n_impl_Msg m)).2) from e2)) ?_
  rfl
end Go.Eng.R
open Go Go.Eng
namespace Go.Eng.R
theorem B_Item.W {x : V} (h : B_Item x) : W_Item x := ⟨h.1, h.2.1, h.2.2.1, h.2.2.2.1, h.2.2.2.2.1.1, h.2.2.2.2.2.1.1, h.2.2.2.2.2.2⟩
theorem B_Node.W {m : Nat} {n : V} (hm : m ≤ 1000) (h : B_Node m n) : W_Node n := by
  obtain ⟨h0, h1, h2, h3, _, h4, h5, h6, h7, h8, h9, _, h10, _⟩ := h
  exact ⟨h0, h1, h2, ⟨h3.1, fun y hy => (h3.2 y hy).W⟩, h4, h5, h6, h7, ⟨by omega, fun _ _ => trivial⟩, h9, h10⟩
theorem B_Msg.W {m : Nat} {x : V} (h : B_Msg m x) : W_Msg x := by
  obtain ⟨h0, h1, h2, h3, h4, h5, hl, _, h7⟩ := h
  exact ⟨h0, h1, h2, h3, h4, h5, ⟨hl.1, fun y hy => (hl.2 y hy).W⟩, h7, trivial⟩
theorem B_Item.z {x : V} (h : B_Item x) : z_Item x ≤ 40 := by
  have h4 := h.2.2.2.2.1.2; have h5 := h.2.2.2.2.2.1.2
  unfold z_Item
  rw [zS_z0, zS_z0]; omega
theorem zS_B {l : List V} (h : LW B_Item l) : zS z_Item l ≤ l.length * 41 := by
  have := sumL_bound (f := z_Item) (l := l) (B := 40) fun x hx => (h.2 x hx).z
  unfold zS; omega
theorem B_Node.z {n : V} (h : B_Node 10 n) : zS z_Item (gl n 3) ≤ 1048576 := by
  have := zS_B h.2.2.2.1; have := h.2.2.2.2.1; omega
theorem B_Msg.z {m : V} (h : B_Msg 6 m) : z_Msg m ≤ 1048576 := by
  have h1 := zS_B h.2.2.2.2.2.2.1; have h2 := h.2.2.2.2.2.2.2.1
  show zS z_Item (gl m 6) ≤ _
  omega
theorem MsgP.n {m : V} (q : MsgP m) : MsgP (n_impl_Msg m) := ⟨q.kind0, q.kind3, q.from0, q.from4, q.to0, q.to4, q.ne, q.term1, q.termM, q.prev0, q.prevM, q.pt0, q.ptT, q.com0, q.comM, q.len4, q.lenP, q.zero, q.items, q.ask, q.vote, q.add, q.ack⟩
theorem MsgP.u {m : V} (q : MsgP (n_impl_Msg m)) : MsgP m := ⟨q.kind0, q.kind3, q.from0, q.from4, q.to0, q.to4, q.ne, q.term1, q.termM, q.prev0, q.prevM, q.pt0, q.ptT, q.com0, q.comM, q.len4, q.lenP, q.zero, q.items, q.ask, q.vote, q.add, q.ack⟩
theorem nodeB_true {n : V} {k : Int} (h : NodeP n k) : nodeB n k = true := by simpa [nodeB] using h
theorem nodeB_p {n : V} {k : Int} (h : nodeB n k = true) : NodeP n k := by simpa [nodeB] using h
end Go.Eng.R
open Go Go.Eng
namespace Go.Eng.R
set_option maxRecDepth 100000
theorem eqList_refl : ∀ l : List V, eqList l l = true
  | [] => rfl
  | a :: l => by
    show (decide (a.I = a.I) && eqList l l) = true
    rw [decide_eq_true rfl, eqList_refl l]; rfl
theorem sameCmd_refl (a : V) : laws_sameCmd a a = true := by
  unfold laws_sameCmd laws_sameOp laws_sameBytes
  simp only [eqList_refl, decide_true, cond_true]
def hb0 (n : V) : V := V.agg [(V.int .i64 (gi n 0)), (V.int .i64 (gi n 1)), (V.int .i64 (gi n 2)), (V.sl 3 t_impl_Item 0 none), (V.int .i64 (gi n 4)), (V.int .i64 (gi n 5)), (V.int .i64 (gi n 6)), (V.int .i64 (gi n 7)), (V.sl 4 t_bool 0 none), (V.sl 5 t_int' 0 none), (V.sl 6 t_int' 0 none)]
def hb1 (n : V) : V := V.agg [(V.int .i64 (gi n 0)), (V.int .i64 (gi n 1)), (V.int .i64 (gi n 2)), (V.sl 7 t_impl_Item 0 none), (V.int .i64 (gi n 4)), (V.int .i64 (gi n 5)), (V.int .i64 (gi n 6)), (V.int .i64 (gi n 7)), (V.sl 8 t_bool 0 none), (V.sl 9 t_int' 0 none), (V.sl 10 t_int' 0 none)]
theorem all_yes (n : Nat) : (List.range n).all (fun _ => true) = true := List.all_eq_true.2 fun _ _ => rfl
theorem l8_run {n x : V} {l a8 a9 a10 b8 b9 b10 ln lx : List V} {c : Nat} (hc : gi n 4 = (c : Int)) (hcn : c ≤ ln.length) (hcx : c ≤ lx.length) (hcb : c ≤ 1000) (hk : ∀ j, j < c → rd lx j = n_impl_Item (rd ln j)) :
    laws_FnHears_l8 (c + 1) 0 (hb0 n) (hb1 x) l ln a8 a9 a10 lx b8 b9 b10 = some (1, false, hb0 n, hb1 x, l, ln, a8, a9, a10, lx, b8, b9, b10) := by
  have := all_range (F := fun k i => laws_FnHears_l8 k i (hb0 n) (hb1 x) l ln a8 a9 a10 lx b8 b9 b10) (n := c) (p := fun _ => true) (yes := some (1, false, hb0 n, hb1 x, l, ln, a8, a9, a10, lx, b8, b9, b10)) (no := none) (fun k i hi => ?_) (fun k => ?_)
  · rw [all_yes] at this; exact this
  · show laws_FnHears_l8 (k + 1) (i : Int) _ _ _ _ _ _ _ _ _ _ _ = laws_FnHears_l8 k ((i + 1 : Nat) : Int) _ _ _ _ _ _ _ _ _ _ _
    rw [laws_FnHears_l8]
    have e0 : decide ((i : Int) < gi (hb0 n) 4) = true := by rw [show gi (hb0 n) 4 = gi n 4 from rfl, hc]; exact decide_eq_true (by omega)
    have ex : idxOk (i : Int) lx.length = true := idxOk_nat (by omega)
    have en : idxOk (i : Int) ln.length = true := idxOk_nat (by omega)
    have ew : IntKind.i64.wrap ((i : Int) + 1) = ((i + 1 : Nat) : Int) := by rw [wr64' (by omega) (by omega)]; omega
    rw [e0, ex, en, ew]
    simp only [cond_true, Nat.zero_add, Int.toNat_natCast, hk i hi]
    rw [show decide (gi (n_impl_Item (rd ln i)) 0 = gi (rd ln i) 0) = true from decide_eq_true rfl]
    simp only [Bool.not_true, cond_false]
    rw [show laws_sameCmd (V.agg [(V.int .i64 (gi (n_impl_Item (rd ln i)) 1)), (V.int .i64 (gi (n_impl_Item (rd ln i)) 2)), (V.int .i64 (gi (n_impl_Item (rd ln i)) 3)), (V.inl t_byte (gl (n_impl_Item (rd ln i)) 4)), (V.inl t_byte (gl (n_impl_Item (rd ln i)) 5)), (V.int .i64 (gi (n_impl_Item (rd ln i)) 6))]) (V.agg [(V.int .i64 (gi (rd ln i) 1)), (V.int .i64 (gi (rd ln i) 2)), (V.int .i64 (gi (rd ln i) 3)), (V.inl t_byte (gl (rd ln i) 4)), (V.inl t_byte (gl (rd ln i) 5)), (V.int .i64 (gi (rd ln i) 6))]) = true from sameCmd_refl _]
    rfl
  · show laws_FnHears_l8 (k + 1) (c : Int) _ _ _ _ _ _ _ _ _ _ _ = _
    rw [laws_FnHears_l8]
    rw [show decide ((c : Int) < gi (hb0 n) 4) = false from decide_eq_false (by rw [show gi (hb0 n) 4 = gi n 4 from rfl, hc]; omega)]
    rfl
theorem l13_run {n x : V} {l a8 a9 a10 b8 b9 b10 ln lx : List V} (hl : l.length ≤ 1000000) (hm : ∀ a ∈ l, W_Msg a ∧ MsgP a ∧ gi a 1 = gi n 0 ∧ gi a 3 = gi x 1) :
    laws_FnHears_l13 (l.length + 1) 0 (hb0 n) (hb1 x) l ln a8 a9 a10 lx b8 b9 b10 = some (1, false) := by
  have := all_range (F := fun k i => laws_FnHears_l13 k i (hb0 n) (hb1 x) l ln a8 a9 a10 lx b8 b9 b10) (n := l.length) (p := fun _ => true) (yes := some (1, false)) (no := none) (fun k i hi => ?_) (fun k => ?_)
  · rw [all_yes] at this; exact this
  · show laws_FnHears_l13 (k + 1) (i : Int) _ _ _ _ _ _ _ _ _ _ _ = laws_FnHears_l13 k ((i + 1 : Nat) : Int) _ _ _ _ _ _ _ _ _ _ _
    obtain ⟨w, p, q1, q2⟩ := hm (rd l i) (by simp [rd, List.getD, hi])
    rw [laws_FnHears_l13]
    have e0 : decide ((i : Int) < ((l.length : Nat) : Int)) = true := decide_eq_true (by omega)
    have ew : IntKind.i64.wrap ((i : Int) + 1) = ((i + 1 : Nat) : Int) := by rw [wr64' (by omega) (by omega)]; omega
    rw [e0, idxOk_nat hi, ew]
    simp only [cond_true, Nat.zero_add, Int.toNat_natCast]
    rw [show impl_MsgOk (n_impl_Msg (rd l i)) = some true from by rw [impl_MsgOk_eq w, msgB_true p]]
    simp only [Option.bind_some, Bool.not_true, cond_false]
    rw [show decide (gi (rd l i) 1 = gi (hb0 n) 0) = true from decide_eq_true q1, show decide (gi (rd l i) 3 = gi (hb1 x) 1) = true from decide_eq_true q2]
    rfl
  · show laws_FnHears_l13 (k + 1) ((l.length : Nat) : Int) _ _ _ _ _ _ _ _ _ _ _ = _
    rw [laws_FnHears_l13, lt_self]; rfl
theorem hears_fin {n x : V} {l : List V} {c : Nat} (hc : gi n 4 = (c : Int)) (hcn : c ≤ (gl n 3).length) (hcx : c ≤ (gl x 3).length) (hcb : c ≤ 1000) (hk : ∀ j, j < c → rd (gl x 3) j = n_impl_Item (rd (gl n 3) j)) (hl : l.length ≤ 1000000) (hm : ∀ a ∈ l, W_Msg a ∧ MsgP a ∧ gi a 1 = gi n 0 ∧ gi a 3 = gi x 1) :
    (Option.bind (laws_FnHears_l8 ((gi (hb0 n) 4 - 0).toNat + 1) 0 (hb0 n) (hb1 x) l (gl n 3) (gl n 8) (gl n 9) (gl n 10) (gl x 3) (gl x 8) (gl x 9) (gl x 10)) fun r =>
      bif (Nat.beq r.1 0) then some r.2.1
      else Option.bind (laws_FnHears_l13 ((((r.2.2.2.2.1.length : Nat) : Int) - 0).toNat + 1) 0 (hb0 r.2.2.1) (hb1 r.2.2.2.1) r.2.2.2.2.1 r.2.2.2.2.2.1 r.2.2.2.2.2.2.1 r.2.2.2.2.2.2.2.1 r.2.2.2.2.2.2.2.2.1 r.2.2.2.2.2.2.2.2.2.1 r.2.2.2.2.2.2.2.2.2.2.1 r.2.2.2.2.2.2.2.2.2.2.2.1 r.2.2.2.2.2.2.2.2.2.2.2.2) fun q =>
      bif (Nat.beq q.1 0) then some q.2 else some true) = some true := by
  rw [show (gi (hb0 n) 4 - 0).toNat = c from by rw [show gi (hb0 n) 4 = gi n 4 from rfl, hc]; omega, l8_run hc hcn hcx hcb hk]
  show (Option.bind (laws_FnHears_l13 ((((l.length : Nat) : Int) - 0).toNat + 1) 0 (hb0 n) (hb1 x) l (gl n 3) (gl n 8) (gl n 9) (gl n 10) (gl x 3) (gl x 8) (gl x 9) (gl x 10)) fun q : Nat × Bool => bif (Nat.beq q.1 0) then some q.2 else some true) = some true
  rw [fuel_eq, l13_run hl hm]; rfl
theorem law_Hears {code : List V} (h : LW W_byte code) : laws_FnHears code = some true := by
  obtain ⟨⟨n, k, m⟩, e, hN, hk, hM⟩ := drawHear_O h
  have hn : W_Node n := B_Node.W (by omega) hN
  have hm : W_Msg m := B_Msg.W hM
  have hz := B_Node.z hN; have hzm := B_Msg.z hM
  unfold laws_FnHears
  rw [e]
  simp only [Option.bind_some]
  by_cases hv : NodeP n k ∧ MsgP (n_impl_Msg m) ∧ gi m 2 = gi n 0 ∧ gi m 1 < k
  case neg =>
    simp only [impl_Hear_no hn hm hk hv, spec_NodeOk_eq hn, spec_MsgOk_eq hm, Option.bind_some]
    cases hb : nodeB n k with
    | false => rfl
    | true =>
    cases hcb : msgB m with
    | false => rfl
    | true =>
      by_cases hto : gi m 2 = gi n 0
      case neg => rw [decide_eq_false hto]; rfl
      by_cases hfr : k ≤ gi m 1
      · rw [decide_eq_true hto, decide_eq_true hfr]; rfl
      · exact absurd ⟨nodeB_p hb, (msgB_p hcb).n, hto, by omega⟩ hv
  obtain ⟨hp, hmp, hto, hfr⟩ := hv
  obtain ⟨eH, hS⟩ := impl_Hear_yes hn hm hz hzm hk hp hmp hto hfr
  have hP := hp.vp.hearF hmp hfr (show gi m 2 = gi n 0 from hto)
  generalize hx : (hearF (ownD n) (n_impl_Msg m)).1 = x at *
  generalize hl : (hearF (ownD n) (n_impl_Msg m)).2 = l at *
  have hb := nodeB_true hp
  have hcb : msgB m = true := msgB_true hmp.u
  simp only [eH, spec_NodeOk_eq hn, spec_MsgOk_eq hm, hb, hcb, Option.bind_some, Bool.not_true, cond_false]
  rw [decide_eq_true hto, decide_eq_false (show ¬ k ≤ gi m 1 by omega)]
  simp only [Bool.not_true, cond_false]
  rw [show impl_NodeOk (n_impl_Node x.v) k = some true from by rw [impl_NodeOk_eq hS.W k hk, nodeB_true hP.vp.p]]
  simp only [Option.bind_some, Bool.not_true, cond_false]
  have t1 : gi n 1 ≤ x.term := hP.term
  have t2 : gi n 4 ≤ x.commit := hP.com
  have t3 : x.id = gi n 0 := hP.id
  rw [show decide (gi x.v 1 < gi n 1) = false from decide_eq_false (by show ¬ x.term < gi n 1; omega), show decide (gi x.v 4 < gi n 4) = false from decide_eq_false (by show ¬ x.commit < gi n 4; omega), show decide (gi x.v 0 = gi n 0) = true from decide_eq_true t3]
  simp only [Bool.not_true, cond_false]
  have c0 := hp.com0; have c1 := hp.com1; have hlen := hp.len; have x1 := hP.vp.com1
  have fin := hears_fin (n := n) (x := x.v) (l := l) (c := (gi n 4).toNat) (by omega) (by omega) (by show _ ≤ x.log.length; omega) (by omega)
    (fun j hj => by
      have := hP.keep j (show (j : Int) < gi n 4 by omega)
      show rd x.log j = _
      rw [this]; exact rdMap (by omega)) (by have := hS.few; omega)
    (fun a ha => ⟨hS.msgs.2 a ha, (hP.msgs a ha).1, (hP.msgs a ha).2.1, (hP.msgs a ha).2.2⟩)
  by_cases v1 : x.term = gi n 1
  · rw [show decide (gi x.v 1 = gi n 1) = true from decide_eq_true v1, cond_true]
    by_cases v2 : 0 ≤ gi n 2
    · rw [decide_eq_true v2, show decide (gi x.v 2 = gi n 2) = true from decide_eq_true (hP.vote v1 v2)]
      exact fin
    · rw [decide_eq_false v2]; exact fin
  · rw [show decide (gi x.v 1 = gi n 1) = false from decide_eq_false v1, cond_false]
    exact fin
end Go.Eng.R
open Go Go.Eng
namespace Go.Eng.R
theorem wt_byte {x : V} (h : WtT tab t_byte x) : W_byte x := wt_u8 (h.cell 0 rfl)
def readable : List TypeId := [5, 22]
end Go.Eng.R
