/- An own evaluator of the program's form, proved sound, and what it says of this law's functions: part 2. -/
import Derived.Test.YtjhdhgbboomecaaGreatE1
set_option linter.unusedVariables false
namespace Go.Eng
section
def Local {α : Type} (m : RM α) : Prop := ∀ h h' a l, m h = some (a, l) → (∀ i ∈ l, h' i = h i) → m h' = some (a, l)
theorem Local.ret {α : Type} (a : α) : Local (RM.ret a) := fun h h' b l e _ => by
  cases Zj (h := h) e; rfl
theorem Local.fail {α : Type} : Local (RM.fail : RM α) := fun h h' b l e _ => (Zk (h := h) e).elim
theorem Local.lift {α : Type} (o : Option α) : Local (RM.lift o) := by
  cases o with
  | none => exact .fail
  | some a => exact .ret a
theorem Local.bind {α β : Type} {m : RM α} {f : α → RM β} (hm : Local m) (hf : ∀ a, Local (f a)) : Local (RM.bind m f) := fun h h' b l e k => by
  obtain ⟨a, l1, b', l2, h1, h2, h3⟩ := Zi e
  cases h3
  have e1 := hm h h' a l1 h1 fun i hi => k i (List.mem_append_left _ hi)
  have e2 := hf a h h' b l2 h2 fun i hi => k i (List.mem_append_right _ hi)
  rw [rm_at] at e1 e2 ⊢
  obtain ⟨c1, e1, f1⟩ := e1
  obtain ⟨c2, e2, f2⟩ := e2
  exact ⟨c1 ++ c2, by simp only [RM.bind, e1, e2], by rw [allB_append, f1, f2]; rfl⟩
theorem Local.test {α : Type} {m : RM α} (b : Bool) (hm : Local m) : Local (RM.test b m) := fun h h' a l e k => by
  obtain ⟨h1, h2⟩ := Zt e
  have e1 := hm h h' a l h2 k
  rw [rm_at] at e1 ⊢
  obtain ⟨c1, e1, f1⟩ := e1
  exact ⟨b :: c1, by simp only [RM.test, e1], by simp [allB, h1, f1]⟩
theorem Local.get (i : Nat) : Local (RM.get i) := fun h h' b l e k => by
  obtain ⟨h1, h2⟩ := Zan e
  dsimp only at h1 h2
  subst h2
  rw [rm_at]
  exact ⟨[], by simp only [RM.get, k i (by simp), h1], rfl⟩
theorem Zp (x : V) : Local (view1 x) := by
  unfold view1
  repeat' (first | assumption | exact Local.ret _ | exact Local.fail | exact Local.lift _ | exact Local.get _ | refine Local.bind ?_ (fun _ => ?_) | refine Local.test _ ?_ | split)
theorem ZD {f : V → RM (V × List Nat)} (hf : ∀ v, Local (f v)) : ∀ xs, Local (Zbw f xs)
  | [] => .ret _
  | x :: xs => .bind (hf x) fun _ => .bind (ZD hf xs) fun _ => .ret _
theorem ZB (x : V) : Local (ZcM x) := by
  unfold ZcM
  repeat' (first | assumption | exact Local.ret _ | exact Local.fail | exact Local.lift _ | exact Local.get _ | exact ZD Zp _ | apply Zp | refine Local.bind ?_ (fun _ => ?_) | refine Local.test _ ?_ | split)
theorem Z4 (x : V) : Local (view x) := by
  unfold view
  repeat' (first | assumption | exact Local.ret _ | exact Local.fail | exact Local.lift _ | exact Local.get _ | exact ZD Zp _ | exact ZD ZB _ | apply Zp | apply ZB | refine Local.bind ?_ (fun _ => ?_) | refine Local.test _ ?_ | split)
theorem ZH (tab : Tab) (x : V) : Local (absorb1 tab x) := by
  unfold absorb1
  repeat' (first | assumption | exact Local.ret _ | exact Local.fail | exact Local.lift _ | exact Local.get _ | exact ZD Zp _ | apply Zp | apply ZB | apply Z4 | refine Local.bind ?_ (fun _ => ?_) | refine Local.test _ ?_ | split)
theorem ZK (tab : Tab) : ∀ xs, Local (absorb tab xs)
  | [] => .ret _
  | x :: xs => .bind (ZH tab x) fun _ => .bind (ZK tab xs) fun _ => .ret _
theorem ZU (x : V) : Local (Zbx x) := by
  unfold Zbx
  repeat' (first | assumption | exact Local.ret _ | exact Local.fail | exact Local.lift _ | exact Local.get _ | exact ZD Zp _ | apply Zp | apply ZB | apply Z4 | apply ZH | apply ZK | refine Local.bind ?_ (fun _ => ?_) | refine Local.test _ ?_ | split)
theorem ZM (m : TypeId → List V → V) (x : V) : Local (Zcs m x) := by
  unfold Zcs
  repeat' (first | assumption | exact Local.ret _ | exact Local.fail | exact Local.lift _ | exact Local.get _ | exact ZD Zp _ | exact ZD ZU _ | apply Zp | apply ZB | apply Z4 | apply ZH | apply ZK | apply ZU | refine Local.bind ?_ (fun _ => ?_) | refine Local.test _ ?_ | split)
theorem Zao (x : V) : Local (lenV x) := by
  unfold lenV
  repeat' (first | assumption | exact Local.ret _ | exact Local.fail | exact Local.lift _ | exact Local.get _ | exact ZD Zp _ | apply Zp | apply ZB | apply Z4 | apply ZH | apply ZK | apply ZU | apply ZM | refine Local.bind ?_ (fun _ => ?_) | refine Local.test _ ?_ | split)
theorem Zau (e : TypeId) (ty : Ty) (x : V) : Local (elsV e ty x) := by
  unfold elsV
  repeat' (first | assumption | exact Local.ret _ | exact Local.fail | exact Local.lift _ | exact Local.get _ | exact ZD Zp _ | apply Zp | apply ZB | apply Z4 | apply ZH | apply ZK | apply ZU | apply ZM | apply Zao | refine Local.bind ?_ (fun _ => ?_) | refine Local.test _ ?_ | split)
theorem Zar (tab : Tab) (t : TypeId) (p : V) : Local (loadV tab t p) := by
  unfold loadV
  repeat' (first | assumption | exact Local.ret _ | exact Local.fail | exact Local.lift _ | exact Local.get _ | exact ZD Zp _ | apply Zp | apply ZB | apply Z4 | apply ZH | apply ZK | apply ZU | apply ZM | apply Zao | apply Zau | refine Local.bind ?_ (fun _ => ?_) | refine Local.test _ ?_ | split)
theorem Zap (tab : Tab) (t : TypeId) (p v : V) : Local (storeV tab t p v) := by
  unfold storeV
  repeat' (first | assumption | exact Local.ret _ | exact Local.fail | exact Local.lift _ | exact Local.get _ | exact ZD Zp _ | apply Zp | apply ZB | apply Z4 | apply ZH | apply ZK | apply ZU | apply ZM | apply Zao | apply Zau | apply Zar | refine Local.bind ?_ (fun _ => ?_) | refine Local.test _ ?_ | split)
theorem Z1 (tab : Tab) (t : TypeId) (x i : V) : Local (Zc2 tab t x i) := by
  unfold Zc2
  repeat' (first | assumption | exact Local.ret _ | exact Local.fail | exact Local.lift _ | exact Local.get _ | exact ZD Zp _ | apply Zp | apply ZB | apply Z4 | apply ZH | apply ZK | apply ZU | apply ZM | apply Zao | apply Zau | apply Zar | apply Zap | refine Local.bind ?_ (fun _ => ?_) | refine Local.test _ ?_ | split)
theorem Zay (d n : Nat) (x : Option V) : Local (boundV d n x) := by
  unfold boundV
  repeat' (first | exact Local.ret _ | exact Local.fail | refine Local.test _ ?_ | split)
theorem ZaJ (tab : Tab) (t : TypeId) (x : V) (lo hi mx : Option V) : Local (sliceW tab t x lo hi mx) := by
  unfold sliceW
  repeat' (first | assumption | exact Zay _ _ _ | exact Local.ret _ | exact Local.fail | exact Local.lift _ | exact Local.get _ | exact ZD Zp _ | apply Zp | apply ZB | apply Z4 | apply ZH | apply ZK | apply ZU | apply ZM | apply Zao | apply Zau | apply Zar | apply Zap | apply Z1 | refine Local.bind ?_ (fun _ => ?_) | refine Local.test _ ?_ | split)
theorem ZaW (tab : Tab) (t : TypeId) (x : V) (lo hi mx : Option V) : Local (sliceV tab t x lo hi mx) := by
  unfold sliceV
  repeat' (first | assumption | exact Zay _ _ _ | exact Local.ret _ | exact Local.fail | exact Local.lift _ | exact Local.get _ | exact ZD Zp _ | apply Zp | apply ZB | apply Z4 | apply ZH | apply ZK | apply ZU | apply ZM | apply Zao | apply Zau | apply Zar | apply Zap | apply Z1 | apply ZaJ | refine Local.bind ?_ (fun _ => ?_) | refine Local.test _ ?_ | split)
theorem Zbf (e : TypeId) (x : V) : Local (baseV e x) := by
  unfold baseV
  repeat' (first | assumption | exact Zay _ _ _ | exact Local.ret _ | exact Local.fail | exact Local.lift _ | exact Local.get _ | exact ZD Zp _ | apply Zp | apply ZB | apply Z4 | apply ZH | apply ZK | apply ZU | apply ZM | apply Zao | apply Zau | apply Zar | apply Zap | apply Z1 | apply ZaJ | apply ZaW | refine Local.bind ?_ (fun _ => ?_) | refine Local.test _ ?_ | split)
theorem ZbA (e : TypeId) (ty : Ty) (x : V) : Local (moreV e ty x) := by
  unfold moreV
  repeat' (first | assumption | exact Zay _ _ _ | exact Local.ret _ | exact Local.fail | exact Local.lift _ | exact Local.get _ | exact ZD Zp _ | apply Zp | apply ZB | apply Z4 | apply ZH | apply ZK | apply ZU | apply ZM | apply Zao | apply Zau | apply Zar | apply Zap | apply Z1 | apply ZaJ | apply ZaW | apply Zbf | refine Local.bind ?_ (fun _ => ?_) | refine Local.test _ ?_ | split)
theorem Zbl (tab : Tab) (t t2 : TypeId) (nid : Nat) (s x : V) : Local (appendV tab t t2 nid s x) := by
  unfold appendV
  repeat' (first | assumption | exact Zay _ _ _ | exact Local.ret _ | exact Local.fail | exact Local.lift _ | exact Local.get _ | exact ZD Zp _ | apply Zp | apply ZB | apply Z4 | apply ZH | apply ZK | apply ZU | apply ZM | apply Zao | apply Zau | apply Zar | apply Zap | apply Z1 | apply ZaJ | apply ZaW | apply Zbf | apply ZbA | refine Local.bind ?_ (fun _ => ?_) | refine Local.test _ ?_ | split)
theorem Zcn (tab : Tab) (t : TypeId) (d s : V) : Local (copyV tab t d s) := by
  unfold copyV
  repeat' (first | assumption | exact Zay _ _ _ | exact Local.ret _ | exact Local.fail | exact Local.lift _ | exact Local.get _ | exact ZD Zp _ | apply Zp | apply ZB | apply Z4 | apply ZH | apply ZK | apply ZU | apply ZM | apply Zao | apply Zau | apply Zar | apply Zap | apply Z1 | apply ZaJ | apply ZaW | apply Zbf | apply ZbA | apply Zbl | refine Local.bind ?_ (fun _ => ?_) | refine Local.test _ ?_ | split)
theorem Zct (tab : Tab) (t : TypeId) (d : V) : Local (clearV tab t d) := by
  unfold clearV
  repeat' (first | assumption | exact Zay _ _ _ | exact Local.ret _ | exact Local.fail | exact Local.lift _ | exact Local.get _ | exact ZD Zp _ | apply Zp | apply ZB | apply Z4 | apply ZH | apply ZK | apply ZU | apply ZM | apply Zao | apply Zau | apply Zar | apply Zap | apply Z1 | apply ZaJ | apply ZaW | apply Zbf | apply ZbA | apply Zbl | apply Zcn | refine Local.bind ?_ (fun _ => ?_) | refine Local.test _ ?_ | split)
theorem ZbY (tab : Tab) (t : TypeId) (nid : Nat) (n c : V) : Local (ZcH tab t nid n c) := by
  unfold ZcH
  repeat' (first | assumption | exact Zay _ _ _ | exact Local.ret _ | exact Local.fail | exact Local.lift _ | exact Local.get _ | exact ZD Zp _ | apply Zp | apply ZB | apply Z4 | apply ZH | apply ZK | apply ZU | apply ZM | apply Zao | apply Zau | apply Zar | apply Zap | apply Z1 | apply ZaJ | apply ZaW | apply Zbf | apply ZbA | apply Zbl | apply Zcn | apply Zct | refine Local.bind ?_ (fun _ => ?_) | refine Local.test _ ?_ | split)
theorem ZbU (tab : Tab) (ty : Ty) : ∀ (ps : List (Nat × V)) (acc : List V), Local (rowParts tab ty acc ps)
  | [], _ => .ret _
  | (i, v) :: r, acc => .bind (ZK tab v.cells) fun _ => .test _ (.bind (ZbU tab ty r _) fun _ => .ret _)
theorem giveArg_local (id off : Nat) : Local (giveArg id off) := by
  cases off with
  | zero => exact ZM .rf (.bp id 0)
  | succ off => exact .bind (ZM .rf (.bp id 0)) fun _ => .ret _
theorem ZdF (w q : Bool) (x : V) : Local (argV w q x) := by
  unfold argV
  repeat' (first | assumption | exact Zay _ _ _ | exact Local.ret _ | exact Local.fail | exact Local.lift _ | exact Local.get _ | exact ZD Zp _ | exact ZD ZU _ | apply Zp | apply ZB | apply Z4 | apply ZH | apply ZK | apply ZU | apply ZM | apply giveArg_local | apply Zao | apply Zau | apply Zar | apply Zap | apply Z1 | apply ZaJ | apply ZaW | apply Zbf | apply ZbA | apply Zbl | apply Zcn | apply Zct | apply ZbY | apply ZbU | refine Local.bind ?_ (fun _ => ?_) | refine Local.test _ ?_ | split)
theorem Zdc (w q : Bool) : ∀ xs, Local (argsV w q xs)
  | [] => .ret _
  | x :: xs => .bind (ZdF w q x) fun _ => .bind (Zdc w q xs) fun _ => .ret _
theorem updH_at {hp hp' : Zam} {u : List (Nat × Option Blk)} {i : Nat} (h : hp' i = hp i) : ZP hp' u i = ZP hp u i := by
  induction u generalizing hp hp' with
  | nil => exact h
  | cons p u ih =>
    refine ih ?_
    by_cases e : i = p.1
    · simp [e]
    · simp [e, h]
theorem Local.on {α : Type} {m : RM α} (u : List (Nat × Option Blk)) (hm : Local m) : Local (RM.on u m) := fun h h' a l e k => hm (ZP h u) (ZP h' u) a l e fun i hi => updH_at (k i hi)
theorem shutR_local (tab : Tab) (id : Nat) : Local (shutR tab id) := by
  unfold shutR
  repeat' (first | assumption | exact Local.ret _ | exact Local.fail | exact Local.lift _ | exact Local.get _ | refine Local.bind ?_ (fun _ => ?_) | refine Local.test _ ?_ | split)
theorem loadD_local (tab : Tab) (nid : Nat) (t : TypeId) (p : V) : Local (loadD tab nid t p) := by
  unfold loadD
  repeat' (first | assumption | exact Local.ret _ | exact Local.fail | exact Local.lift _ | exact Local.get _ | apply Zar | apply shutR_local | refine Local.on _ ?_ | refine Local.bind ?_ (fun _ => ?_) | refine Local.test _ ?_ | split)
theorem storeD_local (tab : Tab) (t : TypeId) (p v : V) : Local (storeD tab t p v) := by
  unfold storeD
  repeat' (first | assumption | exact Local.ret _ | exact Local.fail | exact Local.lift _ | exact Local.get _ | apply Zap | apply shutR_local | refine Local.on _ ?_ | refine Local.bind ?_ (fun _ => ?_) | refine Local.test _ ?_ | split)
theorem callV_local (cfg : Cfg) (nid : Nat) (f : FuncId) (aw : List V) : Local (callV cfg nid f aw) := by
  unfold callV
  repeat' (first | assumption | exact Zay _ _ _ | exact Local.ret _ | exact Local.fail | exact Local.lift _ | exact Local.get _ | exact ZD Zp _ | apply Zp | apply ZB | apply Z4 | apply ZH | apply ZK | apply ZU | apply ZM | apply Zao | apply Zau | apply Zar | apply Zap | apply Z1 | apply ZaJ | apply ZaW | apply Zbf | apply ZbA | apply Zbl | apply Zcn | apply Zct | apply ZbY | apply ZbU | apply ZdF | apply Zdc | refine Local.bind ?_ (fun _ => ?_) | refine Local.test _ ?_ | split)
theorem idConv_local (tab : Tab) (a b : TypeId) (x : Nat) : Local (idConv tab a b x) := by
  unfold idConv
  repeat' (first | assumption | exact Local.ret _ | exact Local.fail | exact Local.lift _ | exact Local.get _ | refine Local.bind ?_ (fun _ => ?_) | refine Local.test _ ?_ | split)
theorem convV_local (tab : Tab) (a b : TypeId) (x : V) : Local (convV tab a b x) := by
  unfold convV
  repeat' (first | assumption | exact Zay _ _ _ | exact Local.ret _ | exact Local.fail | exact Local.lift _ | exact Local.get _ | exact ZD Zp _ | apply Zp | apply ZB | apply Z4 | apply ZH | apply ZK | apply ZU | apply ZM | apply Zao | apply Zau | apply Zar | apply Zap | apply Z1 | apply ZaJ | apply ZaW | apply Zbf | apply ZbA | apply Zbl | apply Zcn | apply Zct | apply ZbY | apply ZbU | apply ZdF | apply Zdc | apply callV_local | refine Local.bind ?_ (fun _ => ?_) | refine Local.test _ ?_ | split)
theorem builtinV_local (cfg : Cfg) (nid : Nat) (b : Builtin) (ts : List TypeId) (aw : List V) : Local (Zdq cfg nid b ts aw) := by
  unfold Zdq
  repeat' (first | assumption | exact Zay _ _ _ | exact Local.ret _ | exact Local.fail | exact Local.lift _ | exact Local.get _ | exact ZD Zp _ | apply Zp | apply ZB | apply Z4 | apply ZH | apply ZK | apply ZU | apply ZM | apply Zao | apply Zau | apply Zar | apply Zap | apply Z1 | apply ZaJ | apply ZaW | apply Zbf | apply ZbA | apply Zbl | apply Zcn | apply Zct | apply ZbY | apply ZbU | apply ZdF | apply Zdc | apply callV_local | apply convV_local | apply idConv_local | refine Local.bind ?_ (fun _ => ?_) | refine Local.test _ ?_ | split)
theorem effOp_local (cfg : Cfg) (nid : Nat) (o : Oper) (ev : Operand → V) : Local (Zbo cfg nid o ev) := by
  unfold Zbo
  dsimp only
  repeat' (first | assumption | exact Zay _ _ _ | exact Local.ret _ | exact Local.fail | exact Local.lift _ | exact Local.get _ | exact ZD Zp _ | apply Zp | apply ZB | apply Z4 | apply ZH | apply ZK | apply ZU | apply ZM | apply Zao | apply Zau | apply loadD_local | apply storeD_local | apply Z1 | apply ZaJ | apply ZaW | apply Zbf | apply ZbA | apply Zbl | apply Zcn | apply Zct | apply ZbY | apply ZbU | apply ZdF | apply Zdc | apply callV_local | apply convV_local | apply idConv_local | apply builtinV_local | refine Local.bind ?_ (fun _ => ?_) | refine Local.test _ ?_ | split)
theorem partsAt_congr {ev ev' : Operand → V} {ps : Array (Nat × Operand)} (h : ∀ x ∈ ps.map (·.2), ev x = ev' x) : ZbS ev ps = ZbS ev' ps := by
  refine List.map_congr_left fun p hp => ?_
  rw [h p.2 (Array.mem_map.2 ⟨p, by simpa using hp, rfl⟩)]
theorem map_ev_congr {ev ev' : Operand → V} {xs : Array Operand} (h : ∀ x ∈ xs, ev x = ev' x) : xs.toList.map ev = xs.toList.map ev' :=
  List.map_congr_left fun x hx => h x (by simpa using hx)
theorem effOp_congr {ev ev' : Operand → V} (cfg : Cfg) (nid : Nat) (o : Oper) (h : ∀ x ∈ o.op.operands, ev x = ev' x) : Zbo cfg nid o ev = Zbo cfg nid o ev' := by
  obtain ⟨dst, op, type, pos, after, guard⟩ := o
  have h' : ∀ x ∈ op.operands, sft ev x = sft ev' x := fun x hx => by unfold sft; rw [h x hx]
  cases op <;> simp only [Op.operands] at h h' <;> simp only [Zbo]
  case build t ps => rw [partsAt_congr fun x hx => h' x (by simpa using hx)]
  case buildSlice t n ps => rw [partsAt_congr fun x hx => h' x (by simpa using hx)]
  case makeFunc fn first captured =>
    cases fn <;> simp only []
    rw [map_ev_congr (xs := captured) fun x hx => h' x (by simp [hx])]
  case call c =>
    have ha : c.args.toList.map (sft ev) = c.args.toList.map (sft ev') := map_ev_congr fun x hx => h' x (by simp [Call.operands, hx])
    rw [ha]
    cases hc : c.callee with
    | value f => have hf : sft ev f = sft ev' f := h' f (by simp [Call.operands, hc]); simp only [hf]
    | _ => rfl
  case slice t x lo hi mx => cases lo <;> cases hi <;> cases mx <;> simp_all
  all_goals (first | rfl | (simp_all; done))
end
end Go.Eng
namespace Go.Eng
section
variable {P : Program}
theorem MemOk.world {tab : Tab} {E : Entry} {M : Mem} (h : MemOk tab E M) {w' : World} (hh : w'.heap = M.w.heap) (h1 : w'.os = M.w.os) (h2 : w'.tape = M.w.tape) (h3 : w'.output = M.w.output) :
    MemOk tab E { M with w := w' } ∧ MemLe E M { M with w := w' } := by
  refine h.move (M' := { M with w := w' }) (fun _ => False) (fun id _ => ⟨rfl, rfl, rfl, rfl⟩) (fun _ _ h => h) (fun g _ => by simp [hh]) (fun id _ g _ => by simp [hh])
    ⟨h1, h2, h3, by simp [hh], fun g _ _ => by simp [hh]⟩ (fun g _ _ => by simp [hh]) (fun id h => h.elim) (fun id h => h.elim) (fun id h => h.elim) (fun id _ h => h.elim) (fun id h => h.elim) (fun id h => h.elim) (fun _ id h => h.elim)
def pairsOk (ops : Array Oper) (bef : List Nat) : Bool :=
  (List.range ops.size).all fun j => match ops[j]? with
    | none => true
    | some oj => oj.after.all (fun e => !Region.binds .any e || decide (e.on < j)) && (List.range j).all fun i => match ops[i]? with
      | none => true
      | some oi => (bef.getD j 0).testBit i || oi.apart ops oj
theorem pairsOk_spec {ops : Array Oper} {bef : List Nat} (h : pairsOk ops bef = true) {j : Nat} {oj : Oper} (hj : ops[j]? = some oj) :
    (∀ e ∈ oj.after, Region.binds .any e = true → e.on < j) ∧ ∀ i oi, i < j → ops[i]? = some oi → (bef.getD j 0).testBit i = true ∨ oi.apart ops oj = true := by
  unfold pairsOk at h
  rw [List.all_eq_true] at h
  have h1 := h j (List.mem_range.2 (Array.getElem?_eq_some_iff.1 hj).1)
  simp only [hj, Bool.and_eq_true] at h1
  obtain ⟨h1, h2⟩ := h1
  refine ⟨fun e he hb => ?_, fun i oi hij hi => ?_⟩
  · have := Array.all_eq_true_iff_forall_mem.1 h1 e he
    simpa [hb] using this
  · rw [List.all_eq_true] at h2
    have := h2 i (List.mem_range.2 hij)
    simpa [hi] using this
theorem meets_spec {a b : List Nat} (h : meets a b = false) : ∀ k ∈ a, k ∉ b := by
  intro k hk hb
  have : meets a b = true := List.any_eq_true.2 ⟨k, hk, by simpa using hb⟩
  rw [h] at this; cases this
theorem clash_spec {a b : Rec} (h : clash a b = false) : ((∀ k ∈ a.mods, k ∉ b.log ∧ k ∉ b.mods) ∧ ∀ k ∈ a.log, k ∉ b.mods) ∧ (a.all = true → b.mods = []) ∧ (b.all = true → a.mods = []) := by
  have heeds : ∀ c : Rec, c.heeds = false → c.mods = [] := fun c hc => by
    simp only [Rec.heeds, Bool.or_eq_false_iff, Bool.not_eq_false', List.isEmpty_iff] at hc
    exact hc.2.2
  simp only [clash, Bool.or_eq_false_iff, Bool.and_eq_false_iff] at h
  obtain ⟨⟨⟨h1, h2⟩, h3⟩, h4, h5⟩ := h
  exact ⟨⟨fun k hk => ⟨meets_spec h1 k hk, meets_spec h2 k hk⟩, meets_spec h3⟩, fun e => heeds b (h4.resolve_left (by rw [e]; simp)), fun e => heeds a (h5.resolve_left (by rw [e]; simp))⟩
theorem apartFrom_spec {bef : List Nat} {i : Nat} {a : Rec} : ∀ (tr : List (Nat × Rec)), apartFrom bef i a tr = true → ∀ p ∈ tr, clash a p.2 = false ∨ (bef.getD p.1 0).testBit i = true
  | [], _, p, hp => by cases hp
  | (j, b) :: tr, h, p, hp => by
    simp only [apartFrom, Bool.and_eq_true, Bool.or_eq_true, Bool.not_eq_true'] at h
    rcases List.mem_cons.1 hp with rfl | hp
    · exact h.1.symm
    · exact apartFrom_spec tr h.2 p hp
theorem liveFrom_get : ∀ (tr : List Rec) (i0 j : Nat) (b : Rec), tr[j]? = some b → b.heeds = true → (i0 + j, b) ∈ liveFrom i0 tr
  | [], _, j, b, hb, _ => by simp at hb
  | r :: tr, i0, j, b, hb, hh => by
    unfold liveFrom
    cases j with
    | zero => simp at hb; subst hb; rw [hh]; simp
    | succ j =>
      have := liveFrom_get tr (i0 + 1) j b (by simpa using hb) hh
      rw [show i0 + 1 + j = i0 + (j + 1) from by omega] at this
      cases r.heeds
      · exact this
      · exact List.mem_cons_of_mem _ this
theorem clash_quiet {a b : Rec} (h : a.heeds = false ∨ b.heeds = false) : clash a b = false := by
  have q : ∀ c : Rec, c.heeds = false → c.all = false ∧ c.log = [] ∧ c.mods = [] := fun c hc => by simpa [Rec.heeds] using hc
  rcases h with h | h
  · obtain ⟨h1, h2, h3⟩ := q a h
    simp [clash, meets, h, h1, h2, h3]
  · obtain ⟨h1, h2, h3⟩ := q b h
    simp [clash, meets, h, h1, h2, h3]
theorem apartAll_spec {bef : List Nat} : ∀ (tr : List Rec) (i0 : Nat), Zck bef i0 tr = true → ∀ i j a b, i < j → tr[i]? = some a → tr[j]? = some b → clash a b = false ∨ (bef.getD (i0 + j) 0).testBit (i0 + i) = true
  | [], i0, _, i, j, a, b, _, ha, _ => by simp at ha
  | c :: tr, i0, h, i, j, a, b, hij, ha, hb => by
    obtain ⟨j, rfl⟩ : ∃ k, j = k + 1 := ⟨j - 1, by omega⟩
    have hb : tr[j]? = some b := by simpa using hb
    cases hbh : b.heeds with
    | false => exact .inl (clash_quiet (.inr hbh))
    | true =>
    unfold Zck liveFrom at h
    cases i with
    | zero =>
      simp at ha; subst ha
      cases hc : c.heeds with
      | false => exact .inl (clash_quiet (.inl hc))
      | true =>
        rw [hc, cond_true, apartL, Bool.and_eq_true] at h
        have := apartFrom_spec _ h.1 _ (liveFrom_get tr (i0 + 1) j b hb hbh)
        rwa [show i0 + 1 + j = i0 + (j + 1) from by omega] at this
    | succ i =>
      have h' : Zck bef (i0 + 1) tr = true := by
        cases hc : c.heeds with
        | false => rw [hc] at h; exact h
        | true => rw [hc, cond_true, apartL, Bool.and_eq_true] at h; exact h.2
      have := apartAll_spec tr (i0 + 1) h' i j a b (by omega) (by simpa using ha) hb
      rwa [show i0 + 1 + j = i0 + (j + 1) from by omega, show i0 + 1 + i = i0 + (i + 1) from by omega] at this
theorem noMods_spec {tr : List Rec} (h : noMods tr = true) {a b : Rec} (ha : a ∈ tr) (hb : b ∈ tr) : clash a b = false := by
  simp only [noMods, List.all_eq_true] at h
  have h1 : a.mods = [] ∧ a.all = false := by simpa using h a ha
  have h2 : b.mods = [] ∧ b.all = false := by simpa using h b hb
  simp [clash, meets, h1.1, h2.1, h1.2, h2.2]
theorem filter_less {p q : Nat → Bool} {i : Nat} (hi : p i = true) (hq : q i = false) (hne : ∀ j, j ≠ i → q j = p j) : ∀ {l : List Nat}, l.Nodup → i ∈ l → (l.filter q).length + 1 = (l.filter p).length
  | [], _, h => by simp at h
  | x :: l, hn, h => by
    rw [List.nodup_cons] at hn
    by_cases e : x = i
    · subst e
      have : l.filter q = l.filter p := List.filter_congr fun y hy => hne y fun e' => hn.1 (e' ▸ hy)
      simp [hi, hq, this]
    · have ih := filter_less hi hq hne hn.2 ((List.mem_cons.1 h).resolve_left (Ne.symm e))
      simp only [List.filter_cons, hne x e]
      split
      · simp only [List.length_cons]; omega
      · exact ih
theorem region_any (hmix : P.follows .mixedOrders = true) {tab : Tab} {E : Entry} {ρ0 : Mem} {ops : Array Oper} {Q : Exit → Act → World → Prop} {F : Fs} {es : List Ent} {rs : List Rec} {M : Mem} {a : Act} {rid : Nat} (hR : RelF tab E ρ0 M F a)
    (hlen : es.length = ops.toList.length) (hrl : rs.length = es.length) (hdst : ∀ (j : Nat) (o : Oper) (e : Ent), ops[j]? = some o → es[j]? = some e → e.dst = o.dst) (hmods : ∀ (j : Nat) (e : Ent) (r : Rec), es[j]? = some e → rs[j]? = some r → r.mods = e.mods)
    (hpairs : pairsOk ops (Region.before ops).toList = true) (hclash : (noMods rs || Zck (Region.before ops).toList 0 rs) = true)
    (hstep : ∀ (i : Nat) (o : Oper) (e : Ent) (r : Rec), ops[i]? = some o → es[i]? = some e → rs[i]? = some r → ∀ F' : Fs, (∀ t ∈ o.looksAt ops, F'.sl t = (Z5 F (es.take i)).sl t) → (∀ k ∈ r.log, F'.hp k = (Z5 F (es.take i)).hp k) →
      (r.all = true → F'.hp = (Z5 F (es.take i)).hp) → (∀ k ∈ e.mods, F'.hp k = (Z5 F (es.take i)).hp k) → ∀ (M' : Mem) (a' : Act), RelF tab E ρ0 M' F' a' → a'.tmps.size = a.tmps.size → ∀ K : Act → World → Prop,
      (∀ M'' v, RelF tab E ρ0 M'' (Zat F' e) (a'.put o.dst v) → (a'.put o.dst v).tmps.size = a'.tmps.size → (a'.put o.dst v).defers = a'.defers → K (a'.put o.dst v) M''.w) → wpOp P ops Q i K a' M'.w)
    (hK : ∀ M' a', RelF tab E ρ0 M' (Z5 F es) a' → a'.tmps.size = a.tmps.size → a'.defers = a.defers → Q .normal a' M'.w) : (Code.region rid ops true).wp P Q a M.w := by
  refine wp_region_any hmix ?_
  have hbefD : ∀ j, (Region.before ops).toList.getD j 0 = (Region.before ops).getD j 0 := fun j => by simp [List.getD, Array.getD_eq_getD_getElem?]
  have hrec : ∀ (j : Nat) (e : Ent), es[j]? = some e → ∃ r, rs[j]? = some r ∧ r.mods = e.mods := fun j e hj => by
    have hjl : j < rs.length := by rw [hrl]; exact (List.getElem?_eq_some_iff.1 hj).1
    exact ⟨_, List.getElem?_eq_getElem hjl, hmods j e _ hj (List.getElem?_eq_getElem hjl)⟩
  have hpair : ∀ (i j : Nat) (oi oj : Oper) (ei ej : Rec), i < j → ops[i]? = some oi → ops[j]? = some oj → rs[i]? = some ei → rs[j]? = some ej →
      ((Region.before ops).getD j 0).testBit i = true ∨ (oi.apart ops oj = true ∧ clash ei ej = false) := by
    intro i j oi oj ei ej hij h1 h2 h3 h4
    rcases (pairsOk_spec hpairs h2).2 i oi hij h1 with h | h
    · rw [hbefD] at h; exact .inl h
    · rcases Bool.or_eq_true_iff.1 hclash with hc | hc
      · exact .inr ⟨h, noMods_spec hc (List.mem_of_getElem? h3) (List.mem_of_getElem? h4)⟩
      · rcases apartAll_spec _ 0 hc i j ei ej hij h3 h4 with hc | hc
        · exact .inr ⟨h, hc⟩
        · rw [hbefD] at hc; simp only [Nat.zero_add] at hc; exact .inl hc
  have main : ∀ (fuel : Nat) (listed : Array Bool) (a' : Act) (M' : Mem), listed.size = ops.size →
      (∀ j o, ops[j]? = some o → listed.getD j false = true → ∀ e ∈ o.after, Region.binds .any e = true → listed.getD e.on false = true) →
      RelF tab E ρ0 M' (runS (fun j => listed.getD j false) 0 F es) a' → a'.tmps.size = a.tmps.size → a'.defers = a.defers →
      ((List.range ops.size).filter fun j => !listed.getD j true).length ≤ fuel → wpAny P .any ops Q fuel listed a' M'.w := by
    have hdone : ∀ (listed : Array Bool) (a' : Act) (M' : Mem), listed.size = ops.size → (∀ j, j < ops.size → listed.getD j true = true) →
        RelF tab E ρ0 M' (runS (fun j => listed.getD j false) 0 F es) a' → a'.tmps.size = a.tmps.size → a'.defers = a.defers → Q .normal a' M'.w := by
      intro listed a' M' hsz hall hR' h1 h2
      refine hK M' a' ?_ h1 h2
      rw [runS_all] at hR'
      · exact hR'
      · intro j hj
        have hj' : j < ops.size := by rw [hlen] at hj; simpa using hj
        have := hall j hj'
        have hj2 : j < listed.size := by omega
        simp only [Nat.zero_add]
        simpa [Array.getD_eq_getD_getElem?, hj2] using this
    have hfull : ∀ (listed : Array Bool), listed.size = ops.size → Region.ready .any ops listed = [] → ∀ j, j < ops.size → listed.getD j true = true := by
      intro listed hsz hr j
      induction j using Nat.strongRecOn with
      | ind j ih =>
        intro hj
        cases hb : listed.getD j true with
        | true => rfl
        | false =>
          have ho : ops[j]? = some ops[j] := Array.getElem?_eq_getElem hj
          have : j ∈ Region.ready .any ops listed := by
            refine mem_ready.2 ⟨hb, _, ho, fun e he hbd => ?_⟩
            have hlt := (pairsOk_spec hpairs ho).1 e he hbd
            have h1 := ih e.on hlt (by omega)
            by_cases hls : e.on < listed.size
            · simpa [Array.getD_eq_getD_getElem?, hls] using h1
            · omega
          rw [hr] at this; cases this
    intro fuel
    induction fuel with
    | zero =>
      intro listed a' M' hsz hdown hR' h1 h2 hcnt
      have hall : ∀ j, j < ops.size → listed.getD j true = true := by
        intro j hj
        cases hb : listed.getD j true with
        | true => rfl
        | false =>
          have : j ∈ (List.range ops.size).filter fun j => !listed.getD j true := List.mem_filter.2 ⟨List.mem_range.2 hj, by simp [hb]⟩
          have := List.length_pos_of_mem this
          omega
      refine ⟨?_, hdone listed a' M' hsz hall hR' h1 h2⟩
      unfold Region.ready
      rw [List.filter_eq_nil_iff]
      intro j hj
      simp [hall j (List.mem_range.1 hj)]
    | succ fuel ih =>
      intro listed a' M' hsz hdown hR' h1 h2 hcnt
      refine ⟨fun hr => hdone listed a' M' hsz (hfull listed hsz hr) hR' h1 h2, fun i hi => ?_⟩
      obtain ⟨hun, oi, hoi, hafter⟩ := mem_ready.1 hi
      have hilt : i < ops.size := (Array.getElem?_eq_some_iff.1 hoi).1
      have hSi : listed.getD i false = false := by
        have hi2 : i < listed.size := by omega
        simpa [Array.getD_eq_getD_getElem?, hi2] using hun
      obtain ⟨ei, hei⟩ : ∃ ei, es[i]? = some ei := by
        have hil : i < es.length := by rw [hlen]; simpa using hilt
        exact ⟨_, List.getElem?_eq_getElem hil⟩
      obtain ⟨ri, hri, hrm⟩ := hrec i ei hei
      have hop : ∀ (j : Nat) (e : Ent), es[j]? = some e → ∃ o, ops[j]? = some o := fun j e hj => by
        have : j < ops.size := by have := (List.getElem?_eq_some_iff.1 hj).1; rw [hlen] at this; simpa using this
        exact ⟨_, Array.getElem?_eq_getElem this⟩
      have hpre : ∀ j e o r, es[j]? = some e → ops[j]? = some o → rs[j]? = some r → j < i → listed.getD j false = false → o.apart ops oi = true ∧ clash r ri = false := by
        intro j e o r hej hoj hrj hlt hns
        rcases hpair j i o oi r ri hlt hoj hoi hrj hri with h | h
        · have := before_down (ops := ops) (S := fun k => k = i ∨ listed.getD k false = true) (fun k o' hk hs e' he' hb => ?_) (.inl rfl) h
          · rcases this with h | h
            · omega
            · rw [hns] at h; cases h
          · rcases hs with rfl | hs
            · rw [hoi] at hk; cases hk; exact .inr (hafter e' he' hb)
            · exact .inr (hdown k o' hk hs e' he' hb)
        · exact h
      have hpost : ∀ j e o r, es[j]? = some e → ops[j]? = some o → rs[j]? = some r → i ≤ j → listed.getD j false = true → oi.apart ops o = true ∧ clash ri r = false := by
        intro j e o r hej hoj hrj hge hs
        have hne : i ≠ j := fun e' => by subst e'; rw [hSi] at hs; cases hs
        rcases hpair i j oi o ri r (by omega) hoi hoj hri hrj with h | h
        · have := before_down (ops := ops) (S := fun k => listed.getD k false = true) hdown hs h
          rw [hSi] at this; cases this
        · exact h
      have hslot : ∀ t ∈ oi.looksAt ops, (runS (fun j => listed.getD j false) 0 F es).sl t = (Z5 F (es.take i)).sl t := by
        intro t ht
        refine runS_slot (fun j e hej hlt hns => ?_) (fun j e hej hge hs => ?_)
        · obtain ⟨o, hoj⟩ := hop j e hej
          obtain ⟨r, hrj, -⟩ := hrec j e hej
          rw [hdst j o e hoj hej]
          exact fun hd' => (Oper.apart_spec (hpre j e o r hej hoj hrj hlt hns).1).1 t hd' ht
        · obtain ⟨o, hoj⟩ := hop j e hej
          obtain ⟨r, hrj, -⟩ := hrec j e hej
          rw [hdst j o e hoj hej]
          exact fun hd' => (Oper.apart_spec (hpost j e o r hej hoj hrj hge hs).1).2.2 t hd' ht
      have hheap : ∀ k, (k ∈ ri.log ∨ k ∈ ei.mods ∨ ri.all = true) → (runS (fun j => listed.getD j false) 0 F es).hp k = (Z5 F (es.take i)).hp k := by
        intro k hk
        refine runS_heap (fun j e hej hlt hns hke => ?_) (fun j e hej hge hs hke => ?_)
        · obtain ⟨o, hoj⟩ := hop j e hej
          obtain ⟨r, hrj, hm⟩ := hrec j e hej
          obtain ⟨c1, c2, c3⟩ := clash_spec (hpre j e o r hej hoj hrj hlt hns).2
          rw [← hm] at hke
          rcases hk with hk | hk | hk
          · exact (c1.1 k hke).1 hk
          · rw [← hrm] at hk; exact (c1.1 k hke).2 hk
          · rw [c3 hk] at hke; cases hke
        · obtain ⟨o, hoj⟩ := hop j e hej
          obtain ⟨r, hrj, hm⟩ := hrec j e hej
          obtain ⟨c1, c2, c3⟩ := clash_spec (hpost j e o r hej hoj hrj hge hs).2
          rw [← hm] at hke
          rcases hk with hk | hk | hk
          · exact c1.2 k hk hke
          · rw [← hrm] at hk; exact (c1.1 k hk).2 hke
          · rw [c2 hk] at hke; cases hke
      refine hstep i oi ei ri hoi hei hri _ hslot (fun k hk => hheap k (.inl hk)) (fun e => funext fun k => hheap k (.inr (.inr e))) (fun k hk => hheap k (.inr (.inl hk))) M' a' hR' h1 _ fun M'' v hR'' hsz' hdf' => ?_
      refine ih (listed.setIfInBounds i true) _ M'' (by simp [hsz]) (fun j o hj hs e' he' hb => ?_) ?_ (hsz'.trans h1) (hdf'.trans h2) ?_
      · by_cases hji : j = i
        · subst hji
          rw [hoi] at hj; cases hj
          exact getD_set_true (hafter e' he' hb)
        · rw [getD_set_ne false (Ne.symm hji)] at hs
          exact getD_set_true (hdown j o hj hs e' he' hb)
      · rw [runS_add (S := fun j => listed.getD j false) es i 0 F hei (by simpa using hSi) (by
            have hi2 : i < listed.size := by omega
            simp [Array.getD_eq_getD_getElem?, hi2]) (fun j hj => getD_set_ne false (by simpa using Ne.symm hj)) fun j e hij hej hs => ?_]
        · exact hR''
        · obtain ⟨o, hoj⟩ := hop j e hej
          obtain ⟨r, hrj, hm⟩ := hrec j e hej
          obtain ⟨p1, p2⟩ := hpost j e o r hej hoj hrj (by omega) (by simpa using hs)
          refine ⟨fun d hd' => ?_, fun k hk hk' => ((clash_spec p2).1.1 k (by rw [hrm]; exact hk)).2 (by rw [hm]; exact hk')⟩
          rw [hdst j o e hoj hej]
          rw [hdst i oi ei hoi hei] at hd'
          exact (Oper.apart_spec p1).2.1 d hd'
      · have hi2 : i < listed.size := by omega
        have := filter_less (p := fun j => !listed.getD j true) (q := fun j => !(listed.setIfInBounds i true).getD j true) (i := i) (by simp [hun]) (by simp [Array.getD_eq_getD_getElem?, hi2])
          (fun j hj => by rw [getD_set_ne true (Ne.symm hj)]) (List.nodup_range (n := ops.size)) (List.mem_range.2 hilt)
        omega
  obtain ⟨m1, m2⟩ := hR.mem.world (w' := { M.w with drawn := M.w.drawn + 1 }) rfl rfl rfl rfl
  refine main ops.size (Array.replicate ops.size false) a { M with w := { M.w with drawn := M.w.drawn + 1 } } (by simp) (fun j o hj hs => ?_) ?_ rfl rfl ?_
  · simp [Array.getD_eq_getD_getElem?, Array.getElem?_replicate] at hs
    split at hs <;> simp_all
  · rw [runS_none]
    · exact ⟨m1, hR.le.trans m2, hR.hp, fun t => m2.rs (hR.slots t)⟩
    · intro j hj
      simp [Array.getD_eq_getD_getElem?, Array.getElem?_replicate]
      split <;> simp
  · exact Nat.le_trans (List.length_filter_le _ _) (by simp)
theorem region_draw {cfg : Cfg} (hT : Zv P cfg.tab) (hS : ZaV P cfg.tab cfg.sums) (hmix : P.follows .mixedOrders = true) {E : Entry} {ρ0 : Mem} {ops : Array Oper} {Q : Exit → Act → World → Prop} {F : Fs} {nid : Nat} {es : List Ent} {M : Mem} {a : Act} {rid : Nat}
    (he : Ents cfg ops.toList F nid ops.toList es) (hR : RelF cfg.tab E ρ0 M F a) (hf : ∀ id, nid ≤ id → F.hp id = none) (hd : ∀ o ∈ ops.toList, ∀ d, o.dst = some d → d < a.tmps.size)
    (hpairs : pairsOk ops (Region.before ops).toList = true) (hclash : (noMods (es.map Ent.recd) || Zck (Region.before ops).toList 0 (es.map Ent.recd)) = true)
    (hK : ∀ M' a', RelF cfg.tab E ρ0 M' (Z5 F es) a' → a'.tmps.size = a.tmps.size → a'.defers = a.defers → Q .normal a' M'.w) : (Code.region rid ops true).wp P Q a M.w := by
  obtain ⟨hlen, hget⟩ := he.get
  have hent : ∀ (i : Nat) (o : Oper) (e : Ent), ops[i]? = some o → es[i]? = some e → EntOk cfg ops.toList (Z5 F (es.take i)) (nidAll nid (es.take i)) o e := fun i o e ho hei => by
    obtain ⟨e', h1, h2⟩ := hget i o (by simpa using ho)
    rw [hei] at h1; cases h1; exact h2
  refine region_any hmix hR hlen (by simp) (fun j o e ho hej => (hent j o e ho hej).1) (fun j e r hej hr => by rw [List.getElem?_map, hej] at hr; cases hr; rfl) hpairs hclash
    (fun i o e r ho hei hr F' hsl hlog _ hmo M' a' hR' hsz K hK' => ?_) hK
  rw [List.getElem?_map, hei] at hr
  cases hr
  obtain ⟨e1, e2⟩ := hent i o e ho hei
  have hw : Za8 ops.toList F' o = Za8 ops.toList (Z5 F (es.take i)) o := by
    unfold Za8
    cases hg : o.guard with
    | none => rfl
    | some gw =>
      obtain ⟨g, want⟩ := gw
      simp only []
      cases ht : (ops.toList[g]?).bind (·.dst) with
      | none => rfl
      | some t =>
        simp only []
        rw [hsl t]
        unfold Oper.looksAt
        rw [hg]
        refine List.mem_append_right _ ?_
        simp only []
        rw [Array.getElem?_toList] at ht
        simp [ht]
  refine ent_step hT hS hR' ho (nid := nidAll nid (es.take i)) ⟨e1, ?_⟩ (fun id hid hge => ?_) (fun d hd' => by rw [hsz]; exact hd o (by simpa using Array.mem_of_getElem? ho) d hd') hK'
  · rcases e2 with ⟨q1, q2⟩ | ⟨q1, q2⟩
    · refine .inl ⟨hw.trans q1, ?_⟩
      have hc : Zbo cfg (nidAll nid (es.take i)) o (ev F'.sl) = Zbo cfg (nidAll nid (es.take i)) o (ev (Z5 F (es.take i)).sl) :=
        effOp_congr _ _ _ fun x hx => by
          cases x with
          | tmp t => exact hsl t (List.mem_append_left _ (List.mem_filterMap.2 ⟨.tmp t, by simpa using hx, rfl⟩))
          | _ => rfl
      rw [hc]
      exact effOp_local _ _ _ _ _ _ _ _ q2 hlog
    · exact .inr ⟨hw.trans q1, q2⟩
  · rw [hmo id hid]; exact fresh_run hf (es.take i) id hge
end
end Go.Eng
namespace Go.Eng
section
variable {P : Program} {tab : Tab}
structure Rel (tab : Tab) (E : Entry) (N : Nat) (ps : List (V × Value)) (M : Mem) (s : St) (a : Act) : Prop where
  rel : RelF tab E M M s.F a
  lent : LentL tab M ps s.lent
  fresh : ∀ id, s.nid ≤ id → s.heap id = none
  size : a.tmps.size = N
  defers : a.defers = []
theorem Zco {l r : List Nat} (h : l.Nodup) : (Zcd l r).Nodup := by
  induction r generalizing l with
  | nil => exact h
  | cons x r ih =>
    simp only [Zcd]
    cases hc : l.contains x with
    | true => exact ih h
    | false =>
      refine ih ?_
      rw [List.nodup_append]
      refine ⟨h, by simp, fun a ha b hb e => ?_⟩
      simp at hb; subst hb; subst e
      simp at hc; exact hc ha
theorem place_spec {ids : List Nat} {id k : Nat} (h : Za6 ids id = some k) : ids[k]? = some id := by
  unfold Za6 at h
  rw [List.idxOf?_eq_some_iff] at h
  obtain ⟨hk, he, _⟩ := h
  rw [List.getElem?_eq_getElem hk, he]
theorem ZdX : ∀ (bs : List (Option Blk)) (n k : Nat), (look (Zdr n bs) k : Option (Option Blk)) = if n ≤ k then bs[k - n]? else none
  | [], n, k => by simp [Zdr, look_nil]
  | b :: bs, n, k => by
    simp only [Zdr]
    rw [Zz, ZdX bs (n + 1) k]
    by_cases h1 : k = n
    · subst h1; simp
    · by_cases h2 : n ≤ k
      · have : k - n = (k - (n + 1)) + 1 := by omega
        rw [if_neg h1, if_pos (by omega), if_pos h2, this]; simp
      · rw [if_neg h1, if_neg (by omega), if_neg h2]
noncomputable def Mem.ren (M : Mem) (ids : List Nat) : Mem :=
  { w := M.w
    ρ := fun k => ids[k]?.bind M.ρ
    top := fun k => match ids[k]? with | some id => (match ZbW ids (M.hp id) with | some _ => M.top id | none => []) | none => []
    nest := fun k => match ids[k]? with | some id => (match ZbW ids (M.hp id) with | some _ => M.nest id | none => []) | none => []
    hp := look (Zdr 0 (ids.map fun id => ZbW ids (M.hp id))) }
theorem ren_ok {E : Entry} {M : Mem} {ids : List Nat} : ∀ g, okS E M g → okS E (M.ren ids) g := by
  rintro g ⟨h1, h2, h3⟩
  refine ⟨h1, h2, fun k hk => ?_⟩
  simp only [Mem.ren] at hk
  split at hk
  · split at hk
    · exact h3 _ hk
    · simp at hk
  · simp at hk
theorem ren1_rs {E : Entry} {M : Mem} {ids : List Nat} {x : V} {v : Value} (h : M.Rs tab E x v) : (M.ren ids).Rs tab E (ren1 ids x) v := by
  have hρ : ∀ id k, Za6 ids id = some k → (M.ren ids).ρ k = M.ρ id := fun id k hk => by simp [Mem.ren, place_spec hk]
  cases h with
  | tree h =>
    have := h.keep (w' := (M.ren ids).w) (ok' := okS E (M.ren ids)) ren_ok fun _ _ => rfl
    cases h <;> first | exact .tree this | exact .tree (.dead _)
  | sl id T off len sz N a a' cap n h1 h2 h3 h4 h5 h6 =>
    simp only [ren1]
    cases hk : Za6 ids id with
    | none => exact .tree (.dead _)
    | some k => exact .sl k T off len sz N a a' cap n (by rw [hρ id k hk]; exact h1) h2 h3 h4 h5 h6
  | bp id off g h1 =>
    simp only [ren1]
    cases hk : Za6 ids id with
    | none => exact .tree (.dead _)
    | some k => exact .bp k off g (by rw [hρ id k hk]; exact h1)
  | rp id idx off T sz N g cap h1 h2 =>
    simp only [ren1]
    cases hk : Za6 ids id with
    | none => exact .tree (.dead _)
    | some k => exact .rp k idx off T sz N g cap (by rw [hρ id k hk]; exact h1) h2
  | _ => exact .tree (.dead _)
theorem ren1_list {E : Entry} {M : Mem} {ids : List Nat} {cs : List V} {vals : List Value} (hl : vals.length = cs.length) (h : ∀ j, j < cs.length → M.Rs tab E (cs.getD j .dead) (vals.getD j undef)) :
    vals.length = (cs.map (ren1 ids)).length ∧ ∀ j, j < (cs.map (ren1 ids)).length → (M.ren ids).Rs tab E ((cs.map (ren1 ids)).getD j .dead) (vals.getD j undef) := by
  refine ⟨by simpa using hl, fun j hj => ?_⟩
  simp at hj
  have := ren1_rs (ids := ids) (h j hj)
  simpa [List.getD, hj] using this
theorem renV_rs {E : Entry} {M : Mem} {ids : List Nat} {x : V} {v : Value} (h : M.Rs tab E x v) : (M.ren ids).Rs tab E (renV ids x) v := by
  cases x with
  | agg cs =>
    obtain ⟨vals, rfl, hl, hj⟩ := h.agg_inv
    obtain ⟨h1, h2⟩ := ren1_list (ids := ids) hl hj
    exact .agg _ _ h1 h2
  | tup cs =>
    obtain ⟨vals, rfl, hl, hj⟩ := h.tup_inv
    obtain ⟨h1, h2⟩ := ren1_list (ids := ids) hl hj
    exact .tup _ _ h1 h2
  | fn f cs =>
    obtain ⟨vals, rfl, hl, hj⟩ := h.fn_inv
    obtain ⟨h1, h2⟩ := ren1_list (ids := ids) hl hj
    exact .fn _ _ _ h1 h2
  | _ => exact ren1_rs h
theorem ren_mem {E : Entry} {M : Mem} (h : MemOk tab E M) {ids : List Nat} (hn : ids.Nodup) : MemOk tab E (M.ren ids) := by
  have hhp : ∀ k, (M.ren ids).hp k = ids[k]?.map fun id => ZbW ids (M.hp id) := fun k => by
    simp only [Mem.ren]
    rw [ZdX]; simp
  have hcase : ∀ k, ((M.ren ids).top k = [] ∧ (M.ren ids).nest k = [] ∧ (ids[k]? = none → (M.ren ids).ρ k = none) ∧ ∀ id, ids[k]? = some id → ZbW ids (M.hp id) = none) ∨
      ∃ id, ids[k]? = some id ∧ (M.ren ids).top k = M.top id ∧ (M.ren ids).nest k = M.nest id ∧ (M.ren ids).ρ k = M.ρ id ∧ ZbW ids (M.hp id) ≠ none := fun k => by
    cases hk : ids[k]? with
    | none => simp [Mem.ren, hk]
    | some id =>
      cases hr : ZbW ids (M.hp id) with
      | none => simp [Mem.ren, hk, hr]
      | some b => exact .inr ⟨id, rfl, by simp [Mem.ren, hk, hr], by simp [Mem.ren, hk, hr], by simp [Mem.ren, hk], by simp [hr]⟩
  refine ⟨fun k b hb => ?_, fun k hb => ?_, fun k hb => ?_, fun k => ?_, fun k k' hne g hg hg' => ?_, fun k g hg => ?_, fun k g hg => ?_, h.kept⟩
  · rw [hhp] at hb
    rcases hcase k with ⟨_, _, _, e4⟩ | ⟨id, e, e1, e2, e3, -⟩
    · cases hk : ids[k]? with
      | none => simp [hk] at hb
      | some id => rw [hk] at hb; simp [e4 id hk] at hb
    · rw [e] at hb
      simp only [Option.map_some, Option.some.injEq] at hb
      rw [e1, e2, e3]
      cases hq : M.hp id with
      | none => rw [hq] at hb; simp [ZbW] at hb
      | some ob =>
        cases ob with
        | none => rw [hq] at hb; simp [ZbW] at hb
        | some blk =>
          have hB := h.blocks id blk hq
          rw [hq] at hb
          cases blk with
          | box T cs =>
            simp only [ZbW, Option.some.injEq] at hb
            subst hb
            obtain ⟨g, c, TT, q1, q2, q3, q4, q5, q6⟩ := hB
            obtain ⟨r1, r2⟩ := ren1_list (ids := ids) (cs := cs) (vals := c.toList) (by simp [q3]) fun j hj => by rw [ZaU]; exact q4 j hj
            exact ⟨g, c, TT, q1, q2, by simpa using r1, fun j hj => by have := r2 j hj; rw [ZaU] at this; exact this, q5, q6⟩
          | row T own els =>
            simp only [ZbW, Option.some.injEq] at hb
            subst hb
            obtain ⟨ty, v, q1, q2, q3, q4⟩ := hB
            exact ⟨ty, v, q1, q2, q3.keep ren_ok (fun _ _ => rfl) (fun _ _ => rfl), q4⟩
          | drow T els =>
            simp only [ZbW, Option.some.injEq] at hb
            subst hb
            obtain ⟨ty, v, n, q1, q2, q3, q4, q5⟩ := hB
            exact ⟨ty, v, n, q1, q2, q3.keep ren_ok (fun _ _ => rfl) (fun _ _ => rfl), q4, q5⟩
          | hrow T els idx off j => simp [ZbW] at hb
          | grow T cs =>
            simp only [ZbW, Option.some.injEq] at hb
            subst hb
            obtain ⟨ty, v, xs, q1, q2, q3, q4, q5, q6, q7⟩ := hB
            refine ⟨ty, v, xs, q1, q2, by rw [List.length_map]; exact q3, by rw [List.length_map]; exact q4, fun j hj => ?_, q6, q7⟩
            have hj : j < cs.length := by simpa using hj
            have := ren1_rs (ids := ids) (q5 j hj)
            simpa [List.getD, hj] using this
  · rcases hcase k with ⟨e1, e2, e3, _⟩ | ⟨id, e, _⟩
    · cases hk : ids[k]? with
      | none => exact ⟨e3 hk, e1, e2⟩
      | some id => rw [hhp, hk] at hb; simp at hb
    · rw [hhp, e] at hb; simp at hb
  · rcases hcase k with ⟨e1, e2, _, _⟩ | ⟨id, e, e1, e2, _, e4⟩
    · exact ⟨e1, e2⟩
    · rw [hhp, e] at hb
      simp only [Option.map_some, Option.some.injEq] at hb
      exact absurd hb e4
  · rcases hcase k with ⟨e1, e2, _⟩ | ⟨id, _, e1, e2, _⟩
    · rw [e1, e2]; simp
    · rw [e1, e2]; exact h.nodup id
  · rcases hcase k with ⟨e1, e2, _⟩ | ⟨id, q1, e1, e2, _⟩
    · rw [e1, e2] at hg; simp at hg
    · rcases hcase k' with ⟨e1', e2', _⟩ | ⟨id', q1', e1', e2', _⟩
      · rw [e1', e2'] at hg'; simp at hg'
      · rw [e1, e2] at hg; rw [e1', e2'] at hg'
        refine h.apart id id' (fun e => hne ?_) g hg hg'
        subst e
        have l1 := (List.getElem?_eq_some_iff.1 q1).1
        exact (List.getElem?_inj l1 hn).1 (q1.trans q1'.symm)
  · rcases hcase k with ⟨e1, e2, _⟩ | ⟨id, _, e1, e2, _⟩
    · rw [e1, e2] at hg; simp at hg
    · rw [e1, e2] at hg; exact h.mine id g hg
  · rcases hcase k with ⟨e1, e2, _⟩ | ⟨id, _, e1, e2, _⟩
    · rw [e1] at hg; simp at hg
    · rw [e1] at hg; exact h.mineT id g hg
theorem look_keep (keep : List Nat) (f : Nat → V) (t : Nat) : (look (keep.map fun t => (t, f t)) t).getD .dead = if t ∈ keep then f t else .dead := by
  induction keep with
  | nil => simp [look_nil]
  | cons x keep ih =>
    simp only [List.map_cons]
    rw [Zz]
    by_cases e : t = x
    · subst e; simp
    · simp [e, ih]
theorem ZcI {l r : List Nat} {x : Nat} (h : x ∈ l ∨ x ∈ r) : x ∈ Zcd l r := by
  induction r generalizing l with
  | nil => simpa [Zcd] using h
  | cons y r ih =>
    simp only [Zcd]
    cases hc : l.contains y with
    | true =>
      refine ih ?_
      rcases h with h | h
      · exact .inl h
      · rcases List.mem_cons.1 h with rfl | h
        · exact .inl (by simpa using hc)
        · exact .inr h
    | false =>
      refine ih ?_
      rcases h with h | h
      · exact .inl (by simp [h])
      · rcases List.mem_cons.1 h with rfl | h
        · exact .inl (by simp)
        · exact .inr h
theorem place_mem {ids : List Nat} {id : Nat} (h : id ∈ ids) : ∃ k, Za6 ids id = some k := by
  unfold Za6
  cases hq : ids.idxOf? id with
  | some k => exact ⟨k, rfl⟩
  | none => rw [List.idxOf?_eq_none_iff] at hq; exact absurd h hq
theorem LentL.ren {M : Mem} {ids : List Nat} {ps : List (V × Value)} {is : List Nat} (h : LentL tab M ps is) (hin : ∀ i ∈ is, i ∈ ids) : LentL tab (M.ren ids) ps (is.map fun id => (Za6 ids id).getD 0) := by
  induction h with
  | nil => exact .nil
  | @cons p id ps is h1 _ ih =>
    simp only [List.map_cons]
    refine .cons ?_ (ih fun i hi => hin i (by simp [hi]))
    obtain ⟨k, hk⟩ := place_mem (hin id (by simp))
    rw [hk, Option.getD_some]
    have hρ : (M.ren ids).ρ k = M.ρ id := by simp [Mem.ren, place_spec hk]
    unfold LentAs at h1 ⊢
    rw [hρ]; exact h1
theorem canonIds_spec (keep : List Nat) (s : St) : (canonIds keep s).Nodup ∧ ∀ i ∈ s.lent, i ∈ canonIds keep s := by
  unfold canonIds
  dsimp only
  exact ⟨Zco (Zco (Zco (Zco List.nodup_nil))), fun i hi => ZcI (.inl (ZcI (.inl (ZcI (.inl (ZcI (.inr hi)))))))⟩
theorem canonBy_sound {E : Entry} {N : Nat} {ps : List (V × Value)} {M : Mem} {s : St} {a : Act} (h : Rel tab E N ps M s a) (keep : List Nat) {ids : List Nat} (hn : ids.Nodup) (hin : ∀ i ∈ s.lent, i ∈ ids) : ∃ M', M'.w = M.w ∧ Rel tab E N ps M' (canonBy keep s ids) a := by
  have hhp : M.hp = look s.hp := h.rel.hp
  refine ⟨M.ren ids, rfl, ⟨⟨ren_mem h.rel.mem hn, .refl _ _, ?_, fun t => ?_⟩, h.lent.ren hin, fun id hid => ?_, h.size, h.defers⟩⟩
  · simp only [Mem.ren, hhp]; rfl
  · have : (St.F (canonBy keep s ids)).sl t = if t ∈ keep then renV ids (s.slot t) else .dead :=
      look_keep keep (fun t => renV ids (s.slot t)) t
    rw [this]
    split
    · exact renV_rs (h.rel.slots t)
    · exact .tree (.dead _)
  · show look (Zdr 0 _) id = none
    rw [ZdX]
    have hid' : ids.length ≤ id := hid
    simp [hid']
theorem canon_sound {E : Entry} {N : Nat} {ps : List (V × Value)} {M : Mem} {s : St} {a : Act} (h : Rel tab E N ps M s a) (keep : List Nat) : ∃ M', M'.w = M.w ∧ Rel tab E N ps M' (canon keep s) a := by
  obtain ⟨hn, hin⟩ := canonIds_spec keep s
  exact canonBy_sound h keep hn hin
end
end Go.Eng
namespace Go.Eng
section
variable {P : Program}
theorem LentL.mono {tab : Tab} {M M' : Mem} {ps : List (V × Value)} {is : List Nat} (h : LentL tab M ps is) (hρ : ∀ id rb, M.ρ id = some rb → M'.ρ id = some rb) : LentL tab M' ps is := by
  induction h with
  | nil => exact .nil
  | @cons p id ps is h1 _ ih =>
    refine .cons ?_ ih
    unfold LentAs at h1 ⊢
    split at h1
    · obtain ⟨g, q1, q2⟩ := h1; exact ⟨g, hρ _ _ q1, q2⟩
    · obtain ⟨ty, q1, q2⟩ := h1; exact ⟨ty, q1, hρ _ _ q2⟩
    · obtain ⟨ty, q1, q2⟩ := h1; exact ⟨ty, q1, hρ _ _ q2⟩
    · exact h1.elim
theorem reblock {tab : Tab} {E : Entry} {M : Mem} (hM : MemOk tab E M) {id : Nat} {b b' : Blk} {n' : List Nat} (hb : M.hp id = some (some b)) (hn : n'.Sublist (M.nest id))
    (h : BlkIs tab M.w (okS E M) M.ρ b' (M.ρ id) (M.top id) n') :
    MemOk tab E { M with hp := fun i => if i = id then some (some b') else M.hp i, nest := fun i => if i = id then n' else M.nest i } ∧
    MemLe E M { M with hp := fun i => if i = id then some (some b') else M.hp i, nest := fun i => if i = id then n' else M.nest i } := by
  have hnd : (M.top id ++ n').Nodup := ((List.Sublist.refl _).append hn).nodup (hM.nodup id)
  refine hM.move (fun i => i = id) (fun i hi => ?_) (fun _ _ h => h) (fun _ _ => rfl) (fun _ _ _ _ => rfl) ⟨rfl, rfl, rfl, Nat.le_refl _, fun _ _ _ => rfl⟩ (fun _ _ _ => rfl) (fun i hi g hg => ?_) (fun i hi g hg => ?_) (fun i hi => ?_)
    (fun i i' hi hi' hne => absurd (hi.trans hi'.symm) hne) (fun i hi g hg => ?_) (fun i hi => ?_) (fun hle i hi bb hbb => ?_)
  · simp [hi]
  · subst hi; exact .inl ⟨_, rfl, hg⟩
  · subst hi; simp only [if_true] at hg; exact .inl ⟨_, rfl, List.mem_append_right _ (hn.mem hg)⟩
  · subst hi; simpa using hnd
  · subst hi
    simp only [if_true] at hg
    exact (hM.mine i g ((List.mem_append.1 hg).elim (List.mem_append_left _) fun h => List.mem_append_right _ (hn.mem h))).2
  · subst hi; simp
  · subst hi
    simp only [if_true, Option.some.injEq] at hbb ⊢
    subst hbb
    exact h.keep (fun _ _ h => h) hle.ok hle.same fun _ _ => rfl
theorem Zcu {tab : Tab} {E : Entry} {N : Nat} {ps : List (V × Value)} {M : Mem} {s : St} {a : Act} (h : Rel tab E N ps M s a) (i : Nat) : M.hp i = look s.hp i := by
  rw [h.rel.hp]; rfl
theorem soften_sound {tab : Tab} {E : Entry} {N : Nat} {ps : List (V × Value)} {M : Mem} {s : St} {a : Act} (h : Rel tab E N ps M s a) (id : Nat) : ∃ M', M'.w = M.w ∧ Rel tab E N ps M' (soften s id) a := by
  unfold soften
  split
  · rename_i T own els hl
    have hb : M.hp id = some (some (.row T own els)) := (Zcu h id).trans hl
    obtain ⟨ty, v, xs, k1, k2, k3, k4, k5, k6, k7⟩ := h.rel.mem.row hb
    obtain ⟨m1, m2⟩ := reblock (b' := .row T false els) (n' := []) h.rel.mem hb (List.nil_sublist _) ⟨ty, v, k1, k2, ⟨ty, xs, k1, k3, k4, .inr ⟨rfl, rfl, k7⟩⟩, k5⟩
    refine ⟨{ M with hp := fun i => if i = id then some (some (.row T false els)) else M.hp i, nest := fun i => if i = id then [] else M.nest i }, rfl, ⟨⟨m1, .refl _ _, ?_, fun u => m2.rs (h.rel.slots u)⟩, h.lent.mono m2.ρ, fun i hi => ?_, h.size, h.defers⟩⟩
    · funext i
      show (if i = id then some (some (Blk.row T false els)) else M.hp i) = look ((id, some (Blk.row T false els)) :: s.hp) i
      rw [Zz, Zcu h]
    · show look ((id, some (Blk.row T false els)) :: s.hp) i = none
      rw [Zz, if_neg]
      · exact h.fresh i hi
      · intro e
        have e : i = id := e
        have := h.fresh i hi
        rw [e] at this
        have this : look s.hp id = none := this
        rw [hl] at this; cases this
  · exact ⟨M, rfl, h⟩
theorem newrow_sound {tab : Tab} {E : Entry} {N : Nat} {ps : List (V × Value)} {M : Mem} {s : St} {a : Act} (h : Rel tab E N ps M s a) (own : Bool) {T : TypeId} {ty : Ty} (hty : tab T = some ty) (a0 : Option Addr) :
    ∃ M', M'.w = M.w ∧ MemOk tab E M' ∧ MemLe E M M' ∧ M'.hp = look ((s.nid, some (Blk.row T own [])) :: s.hp) ∧ M'.Rs tab E (.sl s.nid T 0 none) (.slice a0 0 0) := by
  have hn : M.hp s.nid = none := by rw [h.rel.hp]; exact h.fresh _ (Nat.le_refl _)
  obtain ⟨f1, f2, f3⟩ := h.rel.mem.fresh _ hn
  have main := put_ok h.rel.mem M.w [] s.nid (.row T ty.kinds.length 0 (.slice a0 0 0)) (.row T own []) [] [] (.inl f1) rfl rfl rfl (Nat.le_refl _) (fun _ _ _ => rfl) (by simp) (by simp) (by simp) (by simp) fun _ =>
    ⟨ty, .slice a0 0 0, hty, rfl, ⟨ty, [], hty, ⟨by simp, .inl ⟨a0, rfl, rfl⟩⟩, by simp, by
      cases own
      · exact .inr ⟨rfl, rfl, by simp⟩
      · exact .inl ⟨rfl, fun _ _ => [], by simp [Zx], by simp⟩⟩, by cases a0 <;> rfl⟩
  refine ⟨M.put M.w [] s.nid (.row T ty.kinds.length 0 (.slice a0 0 0)) (.row T own []) [] [], rfl, main.1, main.2, ?_, ?_⟩
  · funext i
    rw [Zz]
    simp only [Mem.put, List.not_mem_nil, if_false]
    split
    · rfl
    · rw [h.rel.hp]; rfl
  · exact .sl s.nid T 0 none ty.kinds.length 0 a0 a0 0 0 (by simp [Mem.put]) (by omega) (by simp) (by omega) (by omega) (fun _ => rfl)
theorem getD_take {α : Type} {l : List α} {n i : Nat} {d : α} (h : i < n) : (l.take n).getD i d = l.getD i d := by
  simp [List.getD, h]
theorem recut_sound {tab : Tab} {E : Entry} {N : Nat} {ps : List (V × Value)} {M : Mem} {s : St} {a : Act} (h : Rel tab E N ps M s a) {id T n : Nat} {T' : TypeId} {o own : Bool} {els : List V} (hl : look s.hp id = some (some (.row T' o els))) {v : Value} (hx : M.Rs tab E (.sl id T 0 (some n)) v) :
    ∃ M', M'.w = M.w ∧ MemOk tab E M' ∧ MemLe E M M' ∧ M'.hp = look ((s.nid, some (Blk.row T' (o && own) (els.take n))) :: (id, none) :: s.hp) ∧ M'.Rs tab E (.sl s.nid T' 0 none) v := by
  have hM := h.rel.mem
  have hb : M.hp id = some (some (.row T' o els)) := (Zcu h id).trans hl
  have hn : M.hp s.nid = none := by rw [h.rel.hp]; exact h.fresh _ (Nat.le_refl _)
  have hne : id ≠ s.nid := fun e => by rw [e, hn] at hb; cases hb
  obtain ⟨f1, f2, f3⟩ := hM.fresh _ hn
  obtain ⟨ty, a1, a', cap, m, q1, q2, q3, q4, q5, q6, q7, rfl, q8, q9⟩ := hM.sl hx hb
  obtain rfl := q7 rfl
  simp only [Option.getD_some] at q4
  subst q4
  obtain ⟨ty', rv, xs, k1, k2, k3, k4, k5, k6, k7⟩ := hM.row hb
  obtain rfl : ty = ty' := Option.some.inj (q1.symm.trans k1)
  have hrv := k2.symm.trans q2
  simp only [Option.some.injEq, RB.row.injEq, true_and] at hrv
  subst hrv
  have hm : m ≤ els.length := by omega
  have hlen : (els.take m).length = m := by simp; omega
  have hmul : m * ty.kinds.length ≤ els.length * ty.kinds.length := Nat.mul_le_mul_right _ hm
  have htop : Zo (.slice a' m (cap - 0)) = Zo (.slice a' els.length cap) := by
    rw [Nat.sub_zero]; cases a' <;> cases cap <;> rfl
  have hrow : RowIs M.w T' ty.kinds.length m (.slice a' m (cap - 0)) (xs.take (m * ty.kinds.length)) := by
    rw [Nat.sub_zero]
    refine ⟨by rw [List.length_take, k3.1]; omega, ?_⟩
    rcases k3.2 with ⟨b, e, h0⟩ | ⟨g, cap', cur, e, hc, hg, hN, hcm, hcs, htk⟩
    · simp only [Value.slice.injEq] at e
      obtain ⟨rfl, e1, rfl⟩ := e
      obtain rfl : m = 0 := by omega
      exact .inl ⟨_, rfl, rfl⟩
    · cases e
      refine .inr ⟨g, cap, cur, rfl, hc, hg, by omega, hcm, hcs, ?_⟩
      rw [← htk, List.take_take, Nat.min_eq_left hmul]
  have hel : ∀ i, i < m → (els.take m).getD i .dead = els.getD i .dead := fun i hi => getD_take hi
  have hxs : ∀ i j, i < m → j < ty.kinds.length → (xs.take (m * ty.kinds.length)).getD (i * ty.kinds.length + j) undef = xs.getD (i * ty.kinds.length + j) undef := fun i j hi hj => getD_take (Zbh hi hj)
  have key : ∃ n' : List Nat, n'.Sublist (M.nest id) ∧ ∀ ok' : Nat → Prop, (∀ g, okS E M g → ok' g) → RowT tab M.w ok' T' (o && own) (els.take m) (.slice a' m (cap - 0)) n' := by
    have hsh : ∀ i, i < (els.take m).length → Zbp ty ((els.take m).getD i .dead) := fun i hi => by
      rw [hlen] at hi; rw [hel i hi]; exact k4 i (by omega)
    have hpart : ∃ n' : List Nat, n'.Sublist (M.nest id) ∧ ∀ ok' : Nat → Prop, (∀ g, okS E M g → ok' g) → RowT tab M.w ok' T' false (els.take m) (.slice a' m (cap - 0)) n' :=
      ⟨[], List.nil_sublist _, fun ok' hok => ⟨ty, _, k1, by rw [hlen]; exact hrow, hsh, .inr ⟨rfl, rfl, fun i j hi hj => by
        rw [hlen] at hi; rw [hel i hi, hxs i j hi hj]; exact (k7 i j (by omega) hj).keep hok fun _ _ => rfl⟩⟩⟩
    cases hoo : (o && own) with
    | false => exact hpart
    | true =>
      obtain ⟨ty2, xs2, j1, j2, j3, j4⟩ := k6
      obtain rfl : ty = ty2 := Option.some.inj (k1.symm.trans j1)
      have hxx : xs2 = xs := by
        rcases k3.2 with ⟨b, e, h0⟩ | ⟨g, cap', cur, e, hc, hg, hN, hcm, hcs, htk⟩
        · have e1 := k3.1; have e2 := j2.1
          rw [h0, Nat.zero_mul] at e1 e2
          rw [List.eq_nil_of_length_eq_zero e1, List.eq_nil_of_length_eq_zero e2]
        · rcases j2.2 with ⟨b, e', h0⟩ | ⟨g', cap'', cur', e', hc', hg', hN', hcm', hcs', htk'⟩
          · simp only [Value.slice.injEq] at e e'
            have h1 := e.2.2; have h2 := e'.2.2; omega
          · rw [e'] at e; cases e; obtain ⟨fr, hg, -⟩ := hg; obtain ⟨fr', hg', -⟩ := hg'; rw [hg] at hg'; cases hg'; rw [← htk, ← htk']
      subst hxx
      rcases j4 with ⟨ho, F, hF, he⟩ | ⟨ho, -, -⟩
      · refine ⟨Zx m ty.kinds.length F, ?_, fun ok' hok => ⟨ty, _, k1, by rw [hlen]; exact hrow, hsh, .inl ⟨rfl, F, by rw [hlen], fun i j hi hj => ?_⟩⟩⟩
        · rw [hF]
          unfold Zx
          obtain ⟨d, hd⟩ : ∃ d, els.length = m + d := ⟨els.length - m, by omega⟩
          rw [hd, List.range_add, List.flatMap_append]
          exact List.sublist_append_left _ _
        · rw [hlen] at hi; rw [hel i hi, hxs i j hi hj]; exact he i j (by omega) hj
      · simp [ho] at hoo
  obtain ⟨n', hn', hrt⟩ := key
  have hnd : (Zo (.slice a' m (cap - 0)) ++ n').Nodup := by
    rw [htop, ← k5]
    exact ((List.Sublist.refl _).append hn').nodup (hM.nodup id)
  have main := put_ok hM M.w [id] s.nid (.row T' ty.kinds.length m (.slice a' m (cap - 0))) (.row T' (o && own) (els.take m)) (Zo (.slice a' m (cap - 0))) n' (.inl f1) rfl rfl rfl (Nat.le_refl _) (fun _ _ _ => rfl)
    (fun g hg => .inl ⟨id, .inr (by simp), by rw [k5, ← htop]; exact hg⟩) (fun g hg => .inl ⟨id, .inr (by simp), List.mem_append_right _ (hn'.mem hg)⟩) hnd
    (fun g hg => (hM.mine id g (by
      rcases List.mem_append.1 hg with hg | hg
      · rw [k5, ← htop]; exact List.mem_append_left _ hg
      · exact List.mem_append_right _ (hn'.mem hg))).2)
    fun hle => ⟨ty, _, k1, by rw [hlen], hrt _ hle.ok, rfl⟩
  refine ⟨M.put M.w [id] s.nid (.row T' ty.kinds.length m (.slice a' m (cap - 0))) (.row T' (o && own) (els.take m)) (Zo (.slice a' m (cap - 0))) n', rfl, main.1, main.2, ?_, ?_⟩
  · funext i
    rw [Zz, Zz]
    simp only [Mem.put, List.mem_singleton]
    split
    · rfl
    · split
      · rfl
      · exact Zcu h i
  · have := Rs.sl (tab := tab) (w := M.w) (ok := okS E (M.put M.w [id] s.nid (.row T' ty.kinds.length m (.slice a' m (cap - 0))) (.row T' (o && own) (els.take m)) (Zo (.slice a' m (cap - 0))) n')) (ρ := (M.put M.w [id] s.nid (.row T' ty.kinds.length m (.slice a' m (cap - 0))) (.row T' (o && own) (els.take m)) (Zo (.slice a' m (cap - 0))) n').ρ)
      s.nid T' 0 none ty.kinds.length m a' a' (cap - 0) m (by simp [Mem.put]) (by omega) (by simp) (by omega) (fun _ => by cases a' <;> simp [Addr.add]) (fun _ => rfl)
    rw [Nat.sub_zero] at this ⊢
    exact this
theorem Zdw {α : Type} {cs : List α} {j k : Nat} {x d : α} (hk : k < cs.length) : (cs.set j x).getD k d = if j = k then x else cs.getD k d := by
  simp only [List.getD, List.getElem?_set]
  by_cases e : j = k
  · subst e; simp [hk]
  · simp [e]
theorem nil_at {tab : Tab} {E : Entry} {M : Mem} {cs : List V} {j : Nat} {T : TypeId} (h : cs.getD j .dead = .nil T) : j < cs.length := by
  rcases Nat.lt_or_ge j cs.length with h1 | h1
  · exact h1
  · simp [List.getD, List.getElem?_eq_none h1] at h
theorem sl_at {tab : Tab} {E : Entry} {M : Mem} {cs : List V} {j : Nat} {id T off : Nat} {len : Option Nat} (h : cs.getD j .dead = .sl id T off len) : j < cs.length := by
  rcases Nat.lt_or_ge j cs.length with h1 | h1
  · exact h1
  · simp [List.getD, List.getElem?_eq_none h1] at h
theorem shutS_sound {tab : Tab} (hT : Zv P tab) {E : Entry} {N : Nat} {ps : List (V × Value)} {M : Mem} {s : St} {a : Act} (h : Rel tab E N ps M s a) (id : Nat) : ∃ M', M'.w = M.w ∧ Rel tab E N ps M' (shutS tab s id) a := by
  have hsame : ∃ M', M'.w = M.w ∧ Rel tab E N ps M' s a := ⟨M, rfl, h⟩
  unfold shutS
  split
  · rename_i T els idx off j hl
    split
    · rename_i ty ht
      split
      · rename_i T' l hlj
        cases hb : Nat.beq j id with
        | true => exact hsame
        | false =>
          have hne : j ≠ id := fun e => by rw [e, Nat.beq_refl] at hb; cases hb
          obtain ⟨M', e1, e2, m1, m2, m3⟩ := shut_mem hT h.rel.mem ht ((Zcu h id).trans hl) ((Zcu h j).trans hlj) hne
          refine ⟨M', e1, ⟨m1, .refl _ _, ?_, fun u => m2.rs (h.rel.slots u)⟩, h.lent.mono m2.ρ, fun i hi => ?_, h.size, h.defers⟩
          · funext i
            show M'.hp i = look ((id, some (Blk.drow T (Zc3 ty.kinds ty.agg els idx off (.inl T' l)))) :: (j, none) :: s.hp) i
            rw [m3, updH_shut, Zz, Zz, Zcu h i]
          · have hi : s.nid ≤ i := hi
            have hnone : look s.hp i = none := h.fresh i hi
            show look ((id, some (Blk.drow T (Zc3 ty.kinds ty.agg els idx off (.inl T' l)))) :: (j, none) :: s.hp) i = none
            rw [Zz, if_neg (fun e => by have e : i = id := e; rw [e, hl] at hnone; cases hnone), Zz, if_neg (fun e => by have e : i = j := e; rw [e, hlj] at hnone; cases hnone)]
            exact hnone
      · exact hsame
    · exact hsame
  · exact hsame
theorem shutAll_sound {tab : Tab} (hT : Zv P tab) {E : Entry} {N : Nat} {ps : List (V × Value)} {a : Act} : ∀ (ids : List Nat) {M : Mem} {s : St}, Rel tab E N ps M s a → ∃ M', M'.w = M.w ∧ Rel tab E N ps M' (Zc4 tab s ids) a
  | [], M, s, h => ⟨M, rfl, h⟩
  | id :: ids, M, s, h => by
    obtain ⟨M1, h1, h2⟩ := shutS_sound hT h id
    obtain ⟨M2, h3, h4⟩ := shutAll_sound hT ids h2
    exact ⟨M2, h3.trans h1, h4⟩
theorem end_row {tab : Tab} {E : Entry} {M : Mem} (hM : MemOk tab E M) (id : Nat) :
    MemOk tab E { M with top := fun i => if i = id then [] else M.top i, nest := fun i => if i = id then [] else M.nest i, hp := fun i => if i = id then some none else M.hp i } ∧
    MemLe E M { M with top := fun i => if i = id then [] else M.top i, nest := fun i => if i = id then [] else M.nest i, hp := fun i => if i = id then some none else M.hp i } := by
  exact hM.move (M' := { M with top := fun i => if i = id then [] else M.top i, nest := fun i => if i = id then [] else M.nest i, hp := fun i => if i = id then some none else M.hp i })
    (fun i => i = id) (fun i hi => by simp [hi]) (fun _ _ h => h) (fun g' hg' => rfl) (fun i hi g' hg' => rfl)
    ⟨rfl, rfl, rfl, Nat.le_refl _, fun _ _ _ => rfl⟩
    (fun g' hg' hF => rfl)
    (fun i hi g' hg' => by subst hi; simp at hg') (fun i hi g' hg' => by subst hi; simp at hg') (fun i hi => by subst hi; simp) (fun i i' hi hi' hne => absurd (hi.trans hi'.symm) hne) (fun i hi g' hg' => by subst hi; simp at hg')
    (fun i hi => by subst hi; simp) (fun hle i hi b hbb => by subst hi; simp at hbb)
theorem stiffen_slot {tab : Tab} {E : Entry} {N : Nat} {ps : List (V × Value)} {M : Mem} {s : St} {a : Act} (h : Rel tab E N ps M s a) {t id2 : Nat} {T' : TypeId} {o : Bool} {els : List V} (hl : look s.hp id2 = some (some (.row T' o els))) (v : V)
    (hv : ∀ M1 : Mem, M1.w = M.w → MemLe E M M1 → (∀ (T off : Nat) (len : Option Nat) (u : Value), M.Rs tab E (.sl id2 T off len) u → M1.Rs tab E (.inl T (cut els off len)) u) → M1.Rs tab E v (a.eval (.tmp t))) :
    ∃ M', M'.w = M.w ∧ Rel tab E N ps M' { sl := (t, v) :: s.sl, hp := (id2, none) :: s.hp, nid := s.nid, lent := s.lent } a := by
  have hM := h.rel.mem
  have hb2 : M.hp id2 = some (some (.row T' o els)) := (Zcu h id2).trans hl
  obtain ⟨m1, m2⟩ := end_row hM id2
  generalize hM1 : ({ M with top := fun i => if i = id2 then [] else M.top i, nest := fun i => if i = id2 then [] else M.nest i, hp := fun i => if i = id2 then some none else M.hp i } : Mem) = M1 at m1 m2
  have e1 : M1.w = M.w := by rw [← hM1]
  have ehp : M1.hp = fun i => if i = id2 then some none else M.hp i := by rw [← hM1]
  have etop : M1.top = fun i => if i = id2 then [] else M.top i := by rw [← hM1]
  refine ⟨M1, e1, ⟨m1, .refl _ _, ?_, fun u => ?_⟩, h.lent.mono m2.ρ, fun i hi => ?_, h.size, h.defers⟩
  · funext i
    show M1.hp i = look ((id2, none) :: s.hp) i
    rw [Zz, ehp]
    show (if i = id2 then some none else M.hp i) = _
    rw [Zcu h i]
  · have hsl : (St.F { sl := (t, v) :: s.sl, hp := (id2, none) :: s.hp, nid := s.nid, lent := s.lent }).sl u = if u = t then v else s.slot u := Zdv s t v u
    rw [hsl]
    split
    · rename_i e; subst e
      refine hv M1 e1 m2 fun T off len u hx => ?_
      refine .tree ?_
      rw [e1]
      refine sl_tree hM hx hb2 m2.ok fun g' hg' => ?_
      have hmi := hM.mine id2 g' (List.mem_append_left _ hg')
      refine ⟨.inr hmi.1, by rw [e1]; exact hmi.2, fun i hi => ?_⟩
      rw [etop] at hi
      simp only at hi
      split at hi
      · simp at hi
      · rename_i hni; exact hM.apart i id2 hni g' (List.mem_append_left _ hi) (List.mem_append_left _ hg')
    · exact m2.rs (h.rel.slots u)
  · show look ((id2, none) :: s.hp) i = none
    have h0 : look s.hp i = none := h.fresh i hi
    rw [Zz, if_neg]
    · exact h0
    · intro e
      have e : i = id2 := e
      rw [e, hl] at h0; cases h0
theorem stiffen_sound {tab : Tab} {E : Entry} {N : Nat} {ps : List (V × Value)} {M : Mem} {s : St} {a : Act} (h : Rel tab E N ps M s a) (t j : Nat) : ∃ M', M'.w = M.w ∧ Rel tab E N ps M' (stiffen s t j) a := by
  have hsame : ∃ M', M'.w = M.w ∧ Rel tab E N ps M' s a := ⟨M, rfl, h⟩
  unfold stiffen
  split
  · rename_i id off0 hbp
    split
    · rename_i TT cs hbox
      split
      · rename_i id2 T off len hT
        split
        · rename_i T' o els hl
          have hM := h.rel.mem
          have hb : M.hp id = some (some (.box TT cs)) := (Zcu h id).trans hbox
          have hb2 : M.hp id2 = some (some (.row T' o els)) := (Zcu h id2).trans hl
          have hne : id ≠ id2 := fun e => by rw [e, hb2] at hb; cases hb
          obtain ⟨g, c, T0, q1, q2, q3, q4, q5, q6⟩ := hM.box hb
          have hjl := sl_at (tab := tab) (E := E) (M := M) hT
          have hcj := q4 j hjl
          rw [hT] at hcj
          obtain ⟨m1, m2⟩ := end_row hM id2
          generalize hM1 : ({ M with top := fun i => if i = id2 then [] else M.top i, nest := fun i => if i = id2 then [] else M.nest i, hp := fun i => if i = id2 then some none else M.hp i } : Mem) = M1 at m1 m2
          have e1 : M1.w = M.w := by rw [← hM1]
          have eρ : M1.ρ = M.ρ := by rw [← hM1]
          have ehp : M1.hp = fun i => if i = id2 then some none else M.hp i := by rw [← hM1]
          have etop : M1.top = fun i => if i = id2 then [] else M.top i := by rw [← hM1]
          have hx : M1.Rs tab E (.inl T (cut els off len)) (c.getD j undef) := by
            refine .tree ?_
            rw [e1]
            refine sl_tree hM hcj hb2 m2.ok fun g' hg' => ?_
            have hmi := hM.mine id2 g' (List.mem_append_left _ hg')
            refine ⟨.inr hmi.1, by rw [e1]; exact hmi.2, fun i hi => ?_⟩
            rw [etop] at hi
            simp only at hi
            split at hi
            · simp at hi
            · rename_i hni; exact hM.apart i id2 hni g' (List.mem_append_left _ hi) (List.mem_append_left _ hg')
          have hb' : M1.hp id = some (some (.box TT cs)) := by rw [ehp]; simp only [if_neg hne]; exact hb
          obtain ⟨g', c', T0', r1, r2, r3, r4, r5, r6⟩ := m1.box hb'
          have hr1 := m2.ρ _ _ q1
          rw [r1] at hr1
          simp only [Option.some.injEq, RB.box.injEq] at hr1
          subst hr1
          rw [e1, q2] at r2
          cases r2
          obtain ⟨n1, n2⟩ := reblock (b' := .box TT (cs.set j (.inl T (cut els off len)))) (n' := []) m1 hb' (List.nil_sublist _) (by
            refine ⟨g', c, T0, r1, by rw [e1]; exact q2, by simpa using r3, fun k hk => ?_, r5, rfl⟩
            have hk : k < cs.length := by simpa using hk
            rw [Zdw hk]
            split
            · rename_i e; subst e; exact hx
            · exact r4 k hk)
          refine ⟨{ M1 with hp := fun i => if i = id then some (some (.box TT (cs.set j (.inl T (cut els off len))))) else M1.hp i, nest := fun i => if i = id then [] else M1.nest i }, e1, ⟨⟨n1, .refl _ _, ?_, fun u => n2.rs (m2.rs (h.rel.slots u))⟩, (h.lent.mono m2.ρ).mono n2.ρ, fun i hi => ?_, h.size, h.defers⟩⟩
          · funext i
            show (if i = id then some (some (Blk.box TT (cs.set j (.inl T (cut els off len))))) else M1.hp i) = look ((id, some (Blk.box TT (cs.set j (.inl T (cut els off len))))) :: (id2, none) :: s.hp) i
            rw [Zz, Zz, ehp, h.rel.hp]; rfl
          · show look ((id, some (Blk.box TT (cs.set j (.inl T (cut els off len))))) :: (id2, none) :: s.hp) i = none
            have h0 : look s.hp i = none := h.fresh i hi
            rw [Zz, if_neg, Zz, if_neg]
            · exact h0
            · intro e
              have e : i = id2 := e
              rw [e, hl] at h0; cases h0
            · intro e
              have e : i = id := e
              rw [e, hbox] at h0; cases h0
        · exact hsame
      · exact hsame
    · exact hsame
  · rename_i cs hag
    split
    · rename_i id2 T off len hT
      split
      · rename_i T' o els hl
        refine stiffen_slot h hl _ fun M1 e1 m2 hx => ?_
        have hs := h.rel.slots t
        rw [show s.F.sl t = V.agg cs from hag] at hs
        obtain ⟨vals, e, hlen, hj⟩ := hs.agg_inv
        rw [e]
        refine .agg _ vals (by rw [List.length_set]; exact hlen) fun k hk => ?_
        have hk : k < cs.length := by simpa using hk
        rw [Zdw hk]
        split
        · rename_i e; subst e
          have := hj j hk
          rw [hT] at this
          exact hx _ _ _ _ this
        · exact m2.rs (hj k hk)
      · exact hsame
    · exact hsame
  · rename_i id2 T off len hsl
    split
    · rename_i T' o els hl
      refine stiffen_slot h hl _ fun M1 e1 m2 hx => ?_
      have hs := h.rel.slots t
      rw [show s.F.sl t = V.sl id2 T off len from hsl] at hs
      exact hx _ _ _ _ hs
    · exact hsame
  · exact hsame
theorem thaw1_sound {tab : Tab} (hT0 : Zv P tab) {E : Entry} {N : Nat} {ps : List (V × Value)} {M : Mem} {s : St} {a : Act} (h : Rel tab E N ps M s a) (x : Fix) : ∃ M', M'.w = M.w ∧ Rel tab E N ps M' (thaw1 tab s x) a := by
  have hsame : ∃ M', M'.w = M.w ∧ Rel tab E N ps M' s a := ⟨M, rfl, h⟩
  have hsoft : ∀ id, ∃ M', M'.w = M.w ∧ Rel tab E N ps M' (bif x.own then s else soften s id) a := fun id => by
    cases x.own
    · exact soften_sound h id
    · exact hsame
  have hfresh : ∀ {id : Nat} {T : TypeId}, s.nid + 1 ≤ id → look ((s.nid, some (Blk.row T x.own [])) :: s.hp) id = none := fun {id T} hid => by
    rw [Zz, if_neg (by simp; omega)]
    exact h.fresh id (by omega)
  have hcut : ∀ (id T n : Nat) (v : Value) (f : V → St → St), M.Rs tab E (.sl id T 0 (some n)) v →
      (∀ (T' : TypeId) (o : Bool) (els : List V) (M' : Mem), look s.hp id = some (some (.row T' o els)) → M'.w = M.w → MemOk tab E M' → MemLe E M M' → M'.hp = look ((s.nid, some (Blk.row T' (o && x.own) (els.take n))) :: (id, none) :: s.hp) → M'.Rs tab E (.sl s.nid T' 0 none) v →
        ∃ M'', M''.w = M.w ∧ Rel tab E N ps M'' (f (.sl s.nid T' 0 none) { sl := s.sl, hp := (s.nid, some (.row T' (o && x.own) (els.take n))) :: (id, none) :: s.hp, nid := s.nid + 1, lent := s.lent }) a) →
      ∃ M', M'.w = M.w ∧ Rel tab E N ps M' (recut s id n x.own f) a := fun id T n v f hx hf => by
    unfold recut
    split
    · rename_i T' o els hl
      obtain ⟨M', e1, m1, m2, m3, m4⟩ := recut_sound (own := x.own) h hl hx
      exact hf T' o els M' hl e1 m1 m2 m3 m4
    · exact hsame
  have hfresh2 : ∀ {i id : Nat} {b : Option Blk}, (look s.hp id).isSome = true → s.nid + 1 ≤ i → look ((s.nid, b) :: (id, none) :: s.hp) i = none := fun {i id b} hs hi => by
    rw [Zz, if_neg (by simp; omega), Zz, if_neg]
    · exact h.fresh i (by omega)
    · intro e
      have e : i = id := e
      have := h.fresh i (by omega)
      have this : look s.hp i = none := this
      rw [e] at this; rw [this] at hs; cases hs
  have hslot2 : ∀ (v : V) (M' : Mem) (id : Nat) (b : Option Blk), (look s.hp id).isSome = true → M'.w = M.w → MemOk tab E M' → MemLe E M M' → M'.hp = look ((s.nid, b) :: (id, none) :: s.hp) → M'.Rs tab E v (a.eval (.tmp x.slot)) →
      Rel tab E N ps M' { sl := (x.slot, v) :: s.sl, hp := (s.nid, b) :: (id, none) :: s.hp, nid := s.nid + 1, lent := s.lent } a := fun v M' id b hs e1 m1 m2 m3 m4 => by
    refine ⟨⟨m1, .refl _ _, m3, fun u => ?_⟩, h.lent.mono m2.ρ, fun i hi => hfresh2 hs hi, h.size, h.defers⟩
    have : (St.F { sl := (x.slot, v) :: s.sl, hp := (s.nid, b) :: (id, none) :: s.hp, nid := s.nid + 1, lent := s.lent }).sl u = if u = x.slot then v else s.slot u := Zdv s x.slot v u
    rw [this]
    split
    · rename_i e; subst e; exact m4
    · exact m2.rs (h.rel.slots u)
  have hslot : ∀ (T : TypeId) (ty : Ty) (v : V) (M' : Mem), M'.w = M.w → MemOk tab E M' → MemLe E M M' → M'.hp = look ((s.nid, some (Blk.row T x.own [])) :: s.hp) → M'.Rs tab E v (a.eval (.tmp x.slot)) →
      Rel tab E N ps M' { sl := (x.slot, v) :: s.sl, hp := (s.nid, some (Blk.row T x.own [])) :: s.hp, nid := s.nid + 1, lent := s.lent } a := fun T ty v M' e1 m1 m2 m3 m4 => by
    refine ⟨⟨m1, .refl _ _, m3, fun u => ?_⟩, h.lent.mono m2.ρ, fun id hid => hfresh hid, h.size, h.defers⟩
    have : (St.F { sl := (x.slot, v) :: s.sl, hp := (s.nid, some (Blk.row T x.own [])) :: s.hp, nid := s.nid + 1, lent := s.lent }).sl u = if u = x.slot then v else s.slot u := Zdv s x.slot v u
    rw [this]
    split
    · rename_i e; subst e; exact m4
    · exact m2.rs (h.rel.slots u)
  unfold thaw1
  split
  · split
    · rename_i T hT
      split
      · rename_i ty hty
        have hv := h.rel.slots x.slot
        have hT' : s.F.sl x.slot = .nil T := hT
        rw [hT'] at hv
        obtain ⟨a0, hv⟩ := hv.nil
        obtain ⟨M', e1, m1, m2, m3, m4⟩ := newrow_sound h x.own hty a0
        exact ⟨M', e1, hslot T ty _ M' e1 m1 m2 m3 (by rw [hv]; exact m4)⟩
      · exact hsame
    · rename_i id T n hsl
      have hv := h.rel.slots x.slot
      have hT' : s.F.sl x.slot = .sl id T 0 (some n) := hsl
      rw [hT'] at hv
      exact hcut id T n _ _ hv fun T' o els M' hl e1 m1 m2 m3 m4 => ⟨M', e1, hslot2 _ M' id _ (by rw [hl]; rfl) e1 m1 m2 m3 m4⟩
    · cases hown : x.own
      · exact soften_sound h _
      · exact shutS_sound hT0 h _
    · exact hsame
  · rename_i j hj
    split
    · rename_i cs hcs
      split
      · rename_i T hT
        split
        · rename_i ty hty
          have hv := h.rel.slots x.slot
          have hT' : s.F.sl x.slot = .agg cs := hcs
          rw [hT'] at hv
          obtain ⟨vals, hv, hl, hc⟩ := hv.agg_inv
          have hjl := nil_at (tab := tab) (E := E) (M := M) hT
          have hcj := hc j hjl
          rw [hT] at hcj
          obtain ⟨a0, hv0⟩ := hcj.nil
          obtain ⟨M', e1, m1, m2, m3, m4⟩ := newrow_sound h x.own hty a0
          refine ⟨M', e1, hslot T ty _ M' e1 m1 m2 m3 ?_⟩
          rw [hv]
          refine .agg _ vals (by simpa using hl) fun k hk => ?_
          have hk : k < cs.length := by simpa using hk
          rw [Zdw hk]
          split
          · rename_i e; subst e; rw [hv0]; exact m4
          · exact m2.rs (hc k hk)
        · exact hsame
      · rename_i id T n hT
        have hv := h.rel.slots x.slot
        have hT' : s.F.sl x.slot = .agg cs := hcs
        rw [hT'] at hv
        obtain ⟨vals, hv, hl, hc⟩ := hv.agg_inv
        have hjl := sl_at (tab := tab) (E := E) (M := M) hT
        have hcj := hc j hjl
        rw [hT] at hcj
        refine hcut id T n _ _ hcj fun T' o els M' hlk e1 m1 m2 m3 m4 => ⟨M', e1, hslot2 _ M' id _ (by rw [hlk]; rfl) e1 m1 m2 m3 ?_⟩
        rw [hv]
        refine .agg _ vals (by simpa using hl) fun k hk => ?_
        have hk : k < cs.length := by simpa using hk
        rw [Zdw hk]
        split
        · rename_i e; subst e; exact m4
        · exact m2.rs (hc k hk)
      · exact hsoft _
      · exact hsame
    · rename_i id off hbp
      split
      · rename_i TT cs hbox
        split
        · rename_i T hT
          split
          · rename_i ty hty
            have hb : M.hp id = some (some (.box TT cs)) := (Zcu h id).trans hbox
            obtain ⟨g, c, T0, q1, q2, q3, q4, q5, q6⟩ := h.rel.mem.box hb
            have hjl := nil_at (tab := tab) (E := E) (M := M) hT
            have hcj := q4 j hjl
            rw [hT] at hcj
            obtain ⟨a0, hv0⟩ := hcj.nil
            obtain ⟨M', e1, m1, m2, m3, m4⟩ := newrow_sound h x.own hty a0
            have hne : id ≠ s.nid := by
              intro e
              have := h.fresh s.nid (Nat.le_refl _)
              have this : look s.hp s.nid = none := this
              rw [← e, hbox] at this; cases this
            have hb' : M'.hp id = some (some (.box TT cs)) := by rw [m3, Zz, if_neg hne]; exact hbox
            obtain ⟨g', c', T0', r1, r2, r3, r4, r5, r6⟩ := m1.box hb'
            have hr1 := m2.ρ _ _ q1
            rw [r1] at hr1
            simp only [Option.some.injEq, RB.box.injEq] at hr1
            subst hr1
            rw [e1, q2] at r2
            cases r2
            obtain ⟨n1, n2⟩ := reblock (b' := .box TT (cs.set j (.sl s.nid T 0 none))) (n' := []) m1 hb' (List.nil_sublist _) (by
              refine ⟨g', c, T0, r1, by rw [e1]; exact q2, by simpa using r3, fun k hk => ?_, r5, rfl⟩
              have hk : k < cs.length := by simpa using hk
              rw [Zdw hk]
              split
              · rename_i e; subst e; rw [hv0]; exact m4
              · exact r4 k hk)
            refine ⟨{ M' with hp := fun i => if i = id then some (some (.box TT (cs.set j (.sl s.nid T 0 none)))) else M'.hp i, nest := fun i => if i = id then [] else M'.nest i }, e1, ⟨⟨n1, .refl _ _, ?_, fun u => n2.rs (m2.rs (h.rel.slots u))⟩, (h.lent.mono m2.ρ).mono n2.ρ, fun i hi => ?_, h.size, h.defers⟩⟩
            · funext i
              show (if i = id then some (some (Blk.box TT (cs.set j (.sl s.nid T 0 none)))) else M'.hp i) = look ((id, some (Blk.box TT (cs.set j (.sl s.nid T 0 none)))) :: (s.nid, some (Blk.row T x.own [])) :: s.hp) i
              rw [Zz, m3]
            · show look ((id, some (Blk.box TT (cs.set j (.sl s.nid T 0 none)))) :: (s.nid, some (Blk.row T x.own [])) :: s.hp) i = none
              have hi : s.nid + 1 ≤ i := hi
              rw [Zz, if_neg]
              · exact hfresh hi
              · intro e
                have e : i = id := e
                have := h.fresh i (by omega)
                have this : look s.hp i = none := this
                rw [e, hbox] at this; cases this
          · exact hsame
        · rename_i id2 T n hT
          cases hbe : Nat.beq id2 id with
          | true => exact hsame
          | false =>
            have hne2 : id2 ≠ id := fun e => by rw [e, Nat.beq_refl] at hbe; cases hbe
            have hb : M.hp id = some (some (.box TT cs)) := (Zcu h id).trans hbox
            obtain ⟨g, c, T0, q1, q2, q3, q4, q5, q6⟩ := h.rel.mem.box hb
            have hjl := sl_at (tab := tab) (E := E) (M := M) hT
            have hcj := q4 j hjl
            rw [hT] at hcj
            have hne : id ≠ s.nid := by
              intro e
              have := h.fresh s.nid (Nat.le_refl _)
              have this : look s.hp s.nid = none := this
              rw [← e, hbox] at this; cases this
            rw [cond_false]
            refine hcut id2 T n _ _ hcj fun T' o els M' hlk e1 m1 m2 m3 m4 => ?_
            have hb' : M'.hp id = some (some (.box TT cs)) := by rw [m3, Zz, if_neg hne, Zz, if_neg (Ne.symm hne2)]; exact hbox
            obtain ⟨g', c', T0', r1, r2, r3, r4, r5, r6⟩ := m1.box hb'
            have hr1 := m2.ρ _ _ q1
            rw [r1] at hr1
            simp only [Option.some.injEq, RB.box.injEq] at hr1
            subst hr1
            rw [e1, q2] at r2
            cases r2
            obtain ⟨n1, n2⟩ := reblock (b' := .box TT (cs.set j (.sl s.nid T' 0 none))) (n' := []) m1 hb' (List.nil_sublist _) (by
              refine ⟨g', c, T0, r1, by rw [e1]; exact q2, by simpa using r3, fun k hk => ?_, r5, rfl⟩
              have hk : k < cs.length := by simpa using hk
              rw [Zdw hk]
              split
              · rename_i e; subst e; exact m4
              · exact r4 k hk)
            refine ⟨{ M' with hp := fun i => if i = id then some (some (.box TT (cs.set j (.sl s.nid T' 0 none)))) else M'.hp i, nest := fun i => if i = id then [] else M'.nest i }, e1, ⟨⟨n1, .refl _ _, ?_, fun u => n2.rs (m2.rs (h.rel.slots u))⟩, (h.lent.mono m2.ρ).mono n2.ρ, fun i hi => ?_, h.size, h.defers⟩⟩
            · funext i
              show (if i = id then some (some (Blk.box TT (cs.set j (.sl s.nid T' 0 none)))) else M'.hp i) = look ((id, some (Blk.box TT (cs.set j (.sl s.nid T' 0 none)))) :: (s.nid, some (Blk.row T' (o && x.own) (els.take n))) :: (id2, none) :: s.hp) i
              rw [Zz, m3]
            · show look ((id, some (Blk.box TT (cs.set j (.sl s.nid T' 0 none)))) :: (s.nid, some (Blk.row T' (o && x.own) (els.take n))) :: (id2, none) :: s.hp) i = none
              have hi : s.nid + 1 ≤ i := hi
              rw [Zz, if_neg]
              · exact hfresh2 (by rw [hlk]; rfl) hi
              · intro e
                have e : i = id := e
                have := h.fresh i (by omega)
                have this : look s.hp i = none := this
                rw [e, hbox] at this; cases this
        · exact hsoft _
        · exact hsame
      · exact hsame
    · exact hsame
theorem thaw_sound {tab : Tab} (hT0 : Zv P tab) {E : Entry} {N : Nat} {ps : List (V × Value)} {M : Mem} {s : St} {a : Act} (h : Rel tab E N ps M s a) (x : Fix) : ∃ M', M'.w = M.w ∧ Rel tab E N ps M' (thaw tab s x) a := by
  unfold thaw
  split
  · exact thaw1_sound hT0 h x
  · rename_i j _
    cases Nat.ble 1000 j
    · exact thaw1_sound hT0 h x
    · exact stiffen_sound h _ _
theorem Zdi {tab : Tab} (hT0 : Zv P tab) {E : Entry} {N : Nat} {ps : List (V × Value)} {a : Act} : ∀ (ts : List Fix) {M : Mem} {s : St}, Rel tab E N ps M s a → ∃ M', M'.w = M.w ∧ Rel tab E N ps M' (thawAll tab s ts) a
  | [], M, s, h => ⟨M, rfl, h⟩
  | t :: ts, M, s, h => by
    obtain ⟨M1, h1, h2⟩ := thaw_sound hT0 h t
    obtain ⟨M2, h3, h4⟩ := Zdi hT0 ts h2
    exact ⟨M2, h3.trans h1, h4⟩
theorem head_sound {tab : Tab} (hT0 : Zv P tab) {E : Entry} {N : Nat} {ps : List (V × Value)} {M : Mem} {s : St} {a : Act} (h : Rel tab E N ps M s a) (keep : List Nat) (thaws : List Fix) : ∃ M', M'.w = M.w ∧ Rel tab E N ps M' (head tab keep thaws s) a := by
  obtain ⟨M1, h1, h2⟩ := Zdi hT0 thaws h
  obtain ⟨M2, h3, h4⟩ := canon_sound h2 keep
  exact ⟨M2, h3.trans h1, h4⟩
def exitOf : Ex → Exit
  | .normal => .normal
  | .exit id => .exit id
  | .ret => .ret
def ZaE (N : Nat) : Code → Bool
  | .region _ ops draw => ops.toList.all (fun o => match o.dst with | some d => decide (d < N) | none => true) && (!draw || pairsOk ops (CheckFast.beforeF ops).toList)
  | .seq a b => ZaE N a && ZaE N b
  | .cond _ a b => ZaE N a && ZaE N b
  | .block _ a => ZaE N a
  | .loop a => ZaE N a
  | _ => true
def ZQ (cfg : Cfg) (L : Loops) : Code → Prop
  | .seq a b => ZQ cfg L a ∧ ZQ cfg L b
  | .cond _ a b => ZQ cfg L a ∧ ZQ cfg L b
  | .block _ a => ZQ cfg L a
  | .loop a => (∀ s o r, L.run (ZaZ a) s = some o → o.get = some r → ∃ n, Z9 cfg L a n s = some r) ∧ ZQ cfg L a
  | _ => True
theorem Out.fold_eq {X : Type} {k : Ex → St → Option X} : ∀ {o : Out} {x : X}, o.fold k = some x → ∃ r, o.get = some r ∧ k r.1 r.2 = some x
  | .leaf e s, x, h => ⟨(e, s), rfl, h⟩
  | .br b t f, x, h => by
    cases b with
    | true => exact Out.fold_eq (o := t) h
    | false => exact Out.fold_eq (o := f) h
  | .tst b o, x, h => by
    cases b with
    | true => exact Out.fold_eq (o := o) h
    | false => cases h
theorem least {p : Nat → Prop} (h : ∃ n, p n) : ∃ n, p n ∧ ∀ m, p m → n ≤ m := by
  obtain ⟨n, hn⟩ := h
  induction n using Nat.strongRecOn with
  | ind n ih =>
    by_cases hm : ∃ m, m < n ∧ p m
    · obtain ⟨m, hlt, hm⟩ := hm
      exact ih m hlt hm
    · exact ⟨n, hn, fun m hpm => by
        rcases Nat.lt_or_ge m n with h | h
        · exact absurd ⟨m, h, hpm⟩ hm
        · exact h⟩
theorem wp_rounds {c : Code} {Q : Exit → Act → World → Prop} (I : Nat → Act → World → Prop) (h0 : ∀ a w, ¬I 0 a w) (round : ∀ n a w, I (n + 1) a w → c.wp P (Exit.then (I n) Q) a w) {n : Nat} {a : Act} {w : World} (h : I n a w) :
    (Code.loop c).wp P Q a w := by
  have hex : ∀ (a : Act) (w : World), ∃ μ : Nat, (∃ n, I n a w) → I μ a w ∧ ∀ m, I m a w → μ ≤ m := by
    intro a w
    by_cases hh : ∃ n, I n a w
    · obtain ⟨n, h1, h2⟩ := least hh
      exact ⟨n, fun _ => ⟨h1, h2⟩⟩
    · exact ⟨0, fun h => absurd h hh⟩
  let μ : Act → World → Nat := fun a w => Classical.choose (hex a w)
  have hμ : ∀ a w, (∃ n, I n a w) → I (μ a w) a w ∧ ∀ m, I m a w → μ a w ≤ m := fun a w => Classical.choose_spec (hex a w)
  refine wp_loop (fun a w => ∃ n, I n a w) μ ⟨n, h⟩ fun a w hI => ?_
  obtain ⟨h1, h2⟩ := hμ a w hI
  obtain ⟨m, hm⟩ : ∃ m, μ a w = m + 1 := by
    cases hq : μ a w with
    | zero => rw [hq] at h1; exact absurd h1 (h0 a w)
    | succ m => exact ⟨m, rfl⟩
  rw [hm] at h1
  refine wp_mono (round m a w h1) fun e a' w' hq => ?_
  cases e with
  | normal =>
    have hq : I m a' w' := hq
    have := (hμ a' w' ⟨m, hq⟩).2 m hq
    exact ⟨⟨m, hq⟩, by show μ a' w' < μ a w; omega⟩
  | _ => exact hq
theorem Zcp {cfg : Cfg} (hT : Zv P cfg.tab) (hS : ZaV P cfg.tab cfg.sums) (hmix : P.follows .mixedOrders = true) (L : Loops) (E : Entry) (N : Nat) (ps : List (V × Value)) :
    ∀ (c : Code), ZaE N c = true → ZQ cfg L c → ∀ (X : Type) (s : St) (k : Ex → St → Option X) (x : X), ZbD cfg L c s k = some x →
      ∃ e s', k e s' = some x ∧ ∀ (M : Mem) (a : Act), Rel cfg.tab E N ps M s a → ∀ Q : Exit → Act → World → Prop, (∀ M' a', Rel cfg.tab E N ps M' s' a' → Q (exitOf e) a' M'.w) → c.wp P Q a M.w
  | .skip, _, _, X, s, k, x, h => ⟨.normal, s, h, fun M a hR Q hQ => wp_skip (hQ M a hR)⟩
  | .label l, _, _, X, s, k, x, h => ⟨.normal, s, h, fun M a hR Q hQ => wp_label (hQ M a hR)⟩
  | .exit id, _, _, X, s, k, x, h => ⟨.exit id, s, h, fun M a hR Q hQ => wp_exit (hQ M a hR)⟩
  | .ret, _, _, X, s, k, x, h => ⟨.ret, s, h, fun M a hR Q hQ => wp_ret (hQ M a hR)⟩
  | .region rid ops draw, hc, _, X, s, k, x, h => by
    simp only [ZaE, Bool.and_eq_true, List.all_eq_true] at hc
    obtain ⟨hd, hp⟩ := hc
    have hdst : ∀ (a : Act), a.tmps.size = N → ∀ o ∈ ops.toList, ∀ d, o.dst = some d → d < a.tmps.size := fun a ha o ho d hd' => by
      have := hd o ho
      rw [hd'] at this
      rw [ha]; simpa using this
    cases draw with
    | false =>
      obtain ⟨es, s', he, hF, hn, hlt, hk⟩ := ZdP _ _ _ _ _ h
      refine ⟨.normal, s', hk, fun M0 a hR0 Q hQ => ?_⟩
      obtain ⟨M, ew, hR⟩ := Zdi hT (L.frz rid) hR0
      rw [← ew]
      refine region_seq hT hS he hR.rel hR.fresh (hdst a hR.size) fun M' a' hR' h1 h2 => hQ M' a' ⟨⟨hR'.mem, .refl _ _, by rw [hF]; exact hR'.hp, by rw [hF]; exact hR'.slots⟩, by rw [hlt]; exact hR.lent.mono hR'.le.ρ, ?_, h1.trans hR.size, h2.trans hR.defers⟩
      intro id hid
      have hf := fresh_run (F := (thawAll cfg.tab s (L.frz rid)).F) hR.fresh es id (by rw [← hn]; exact hid)
      rw [← hF] at hf; exact hf
    | true =>
      obtain ⟨es, s', he, hF, hn, hlt, hk⟩ := ZdP _ _ _ _ _ h
      simp only [List.append_nil, List.reverse_reverse] at hk
      cases hcl : (noMods (es.map Ent.recd).reverse || Zck (CheckFast.beforeF ops).toList 0 (es.map Ent.recd)) with
      | false => rw [hcl] at hk; cases hk
      | true =>
        rw [hcl] at hk
        rw [CheckFast.beforeF_eq] at hcl hp
        refine ⟨.normal, s', hk, fun M0 a hR0 Q hQ => ?_⟩
        obtain ⟨M, ew, hR⟩ := Zdi hT (L.frz rid) hR0
        rw [← ew]
        refine region_draw hT hS hmix he hR.rel hR.fresh (hdst a hR.size) (by simpa using hp) (by simpa [noMods] using hcl) fun M' a' hR' h1 h2 => hQ M' a' ⟨⟨hR'.mem, .refl _ _, by rw [hF]; exact hR'.hp, by rw [hF]; exact hR'.slots⟩, by rw [hlt]; exact hR.lent.mono hR'.le.ρ, ?_, h1.trans hR.size, h2.trans hR.defers⟩
        intro id hid
        have hf := fresh_run (F := (thawAll cfg.tab s (L.frz rid)).F) hR.fresh es id (by rw [← hn]; exact hid)
        rw [← hF] at hf; exact hf
  | .seq c1 c2, hc, hl, X, s, k, x, h => by
    simp only [ZaE, Bool.and_eq_true] at hc
    obtain ⟨e1, s1, h1, w1⟩ := Zcp hT hS hmix L E N ps c1 hc.1 hl.1 X s _ x h
    cases e1 with
    | normal =>
      obtain ⟨e2, s2, h2, w2⟩ := Zcp hT hS hmix L E N ps c2 hc.2 hl.2 X s1 k x h1
      exact ⟨e2, s2, h2, fun M a hR Q hQ => wp_seq (w1 M a hR _ fun M' a' hR' => w2 M' a' hR' Q hQ)⟩
    | exit id => exact ⟨.exit id, s1, h1, fun M a hR Q hQ => wp_seq (w1 M a hR _ fun M' a' hR' => hQ M' a' hR')⟩
    | ret => exact ⟨.ret, s1, h1, fun M a hR Q hQ => wp_seq (w1 M a hR _ fun M' a' hR' => hQ M' a' hR')⟩
  | .cond c c1 c2, hc, hl, X, s, k, x, h => by
    simp only [ZaE, Bool.and_eq_true] at hc
    have ih1 := Zcp hT hS hmix L E N ps c1 hc.1 hl.1 X
    have ih2 := Zcp hT hS hmix L E N ps c2 hc.2 hl.2 X
    have hput : ∀ t b, s.slot t = .bool b → ∀ M a, Rel cfg.tab E N ps M s a → Rel cfg.tab E N ps M (s.put (some t) (.bool b)) a := fun t b hb M a hR => by
      obtain ⟨q1, q2⟩ := put_same s t _ hb
      exact ⟨by rw [q1]; exact hR.rel, hR.lent, fun id hid => hR.fresh id hid, hR.size, hR.defers⟩
    have hev : ∀ t b, s.slot t = .bool b → ∀ M a, Rel cfg.tab E N ps M s a → a.eval (.tmp t) = .bool b := fun t b hb M a hR => by
      have := hR.rel.slots t
      have hb' : s.F.sl t = .bool b := hb
      rw [hb'] at this
      exact this.bool
    unfold ZbD at h
    split at h
    · rename_i t
      cases hs : s.slot t with
      | bool b =>
        rw [hs] at h
        cases b with
        | true =>
          obtain ⟨e, s', h1, w1⟩ := ih1 _ k x h
          exact ⟨e, s', h1, fun M a hR Q hQ => wp_cond_true (hev t true hs M a hR) (w1 M a (hput t true hs M a hR) Q hQ)⟩
        | false =>
          obtain ⟨e, s', h1, w1⟩ := ih2 _ k x h
          exact ⟨e, s', h1, fun M a hR Q hQ => wp_cond_false (hev t false hs M a hR) (w1 M a (hput t false hs M a hR) Q hQ)⟩
      | _ => rw [hs] at h; cases h
    · obtain ⟨e, s', h1, w1⟩ := ih1 _ k x h
      exact ⟨e, s', h1, fun M a hR Q hQ => wp_cond_true rfl (w1 M a hR Q hQ)⟩
    · obtain ⟨e, s', h1, w1⟩ := ih2 _ k x h
      exact ⟨e, s', h1, fun M a hR Q hQ => wp_cond_false rfl (w1 M a hR Q hQ)⟩
    · cases h
  | .block id c1, hc, hl, X, s, k, x, h => by
    obtain ⟨e1, s1, h1, w1⟩ := Zcp hT hS hmix L E N ps c1 hc hl X s _ x h
    cases e1 with
    | normal => exact ⟨.normal, s1, h1, fun M a hR Q hQ => wp_block (w1 M a hR _ fun M' a' hR' => hQ M' a' hR')⟩
    | ret => exact ⟨.ret, s1, h1, fun M a hR Q hQ => wp_block (w1 M a hR _ fun M' a' hR' => hQ M' a' hR')⟩
    | exit j =>
      dsimp only at h1
      by_cases hj : j = id
      · subst hj
        simp at h1
        exact ⟨.normal, s1, h1, fun M a hR Q hQ => wp_block (w1 M a hR _ fun M' a' hR' => by
          simpa [exitOf, Exit.inBlock] using hQ M' a' hR')⟩
      · have hb : Nat.beq j id = false := by
          cases hb : Nat.beq j id
          · rfl
          · exact absurd (Nat.eq_of_beq_eq_true hb) hj
        rw [hb] at h1
        exact ⟨.exit j, s1, h1, fun M a hR Q hQ => wp_block (w1 M a hR _ fun M' a' hR' => by
          simpa [exitOf, Exit.inBlock, hj] using hQ M' a' hR')⟩
  | .loop c1, hc, hl, X, s, k, x, h => by
    obtain ⟨hrun, hl1⟩ := hl
    obtain ⟨o, h1, h2⟩ := Option.bind_eq_some_iff.1 h
    obtain ⟨r, h3, h2⟩ := Out.fold_eq h2
    obtain ⟨n, hn⟩ := hrun _ _ _ h1 h3
    have ih := Zcp hT hS hmix L E N ps c1 hc hl1 (Ex × St)
    refine ⟨r.1, r.2, h2, fun M a hR Q hQ => ?_⟩
    obtain ⟨M0, hw0, hR0⟩ := head_sound hT hR (L.keep (ZaZ c1)) (L.thaws (ZaZ c1))
    rw [← hw0]
    refine wp_rounds (fun n a w => ∃ M s1, M.w = w ∧ Rel cfg.tab E N ps M s1 a ∧ Z9 cfg L c1 n s1 = some r) (fun a w => ?_) (fun n a w => ?_) (n := n) ⟨M0, _, rfl, hR0, hn⟩
    · rintro ⟨M, s1, _, _, hr⟩
      simp [Z9] at hr
    · rintro ⟨M1, s1, rfl, hR1, hr⟩
      simp only [Z9] at hr
      obtain ⟨e', s'', hr2, w1⟩ := ih s1 _ _ hr
      refine w1 M1 a hR1 _ fun M' a' hR' => ?_
      cases e' with
      | normal =>
        obtain ⟨M2, hw2, hR2⟩ := head_sound hT hR' (L.keep (ZaZ c1)) (L.thaws (ZaZ c1))
        exact ⟨M2, _, hw2, hR2, hr2⟩
      | exit id =>
        simp only [Option.some.injEq] at hr2
        subst hr2
        obtain ⟨M2, hw2, hR2⟩ := canon_sound hR' (L.outs (ZaZ c1))
        rw [← hw2]
        exact hQ M2 a' hR2
      | ret =>
        simp only [Option.some.injEq] at hr2
        subst hr2
        obtain ⟨M2, hw2, hR2⟩ := canon_sound hR' (L.outs (ZaZ c1))
        rw [← hw2]
        exact hQ M2 a' hR2
  | .rangeFunc _ _ _ _, _, _, X, s, k, x, h => by cases h
  | .scope _, _, _, X, s, k, x, h => by cases h
  | .goto _, _, _, X, s, k, x, h => by cases h
  | .refuse _, _, _, X, s, k, x, h => by cases h
end
end Go.Eng
namespace Go.Eng
section
variable {P : Program} {tab : Tab}
def LentR (tab : Tab) (ρ : Nat → Option RB) (ps : List (V × Value)) (is : List Nat) : Prop := LentL tab ⟨default, ρ, fun _ => [], fun _ => [], fun _ => none⟩ ps is
theorem LentR.of {M : Mem} {ps : List (V × Value)} {is : List Nat} (h : LentR tab M.ρ ps is) : LentL tab M ps is := by
  unfold LentR at h
  generalize hM : (⟨default, M.ρ, fun _ => [], fun _ => [], fun _ => none⟩ : Mem) = M0 at h
  have hρ : M0.ρ = M.ρ := by rw [← hM]
  induction h with
  | nil => exact .nil
  | cons h1 _ ih =>
    refine .cons ?_ ih
    unfold LentAs at h1 ⊢
    rw [hρ] at h1; exact h1
theorem LentR.append {ρ : Nat → Option RB} {ps qs : List (V × Value)} {is js : List Nat} (h : LentR tab ρ ps is) (k : LentR tab ρ qs js) : LentR tab ρ (ps ++ qs) (is ++ js) := LentL.append h k
theorem adopt1_lent {w : World} {ok : Nat → Prop} {x : V} {v : Value} {t n : List Nat} (h : Rq1 tab w ok x v t n) (nid : Nat) :
    Adopted tab w ok nid (ZaD nid x).2 t n fun ρ => Rs tab w ok ρ (ZaD nid x).1 v ∧ LentR tab ρ (Zax [x] [v]) (ZcP nid [x]) := by
  cases h with
  | tree h =>
    rw [adopt1_tree h]
    refine .none fun ρ => ⟨.tree h, ?_⟩
    cases h <;> exact .nil
  | row hrow =>
    rename_i T own els
    obtain ⟨Bs, e1, e2, e3, e4⟩ := Zcm (.row hrow) nid
    refine ⟨Bs, e1, e2, e3, fun ρ hρ => ⟨⟨(e4 ρ hρ).1, ?_⟩, (e4 ρ hρ).2⟩⟩
    obtain ⟨b, hb⟩ : ∃ b, Bs = [b] := by
      have : Bs.length = 1 := by have := congrArg List.length e1; simpa [ZaD] using this.symm
      match Bs, this with
      | [b], _ => exact ⟨b, rfl⟩
    subst hb
    have hb := (e4 ρ hρ).2 b (by simp)
    simp only [ZaD, List.map_cons, List.map_nil, List.cons.injEq, and_true] at e1
    rw [← e1] at hb
    obtain ⟨ty, v', q1, q2, q3, q4⟩ := hb
    have hr := hρ 0 b rfl
    simp only [Nat.add_zero] at hr
    rw [q2] at hr
    have hs := (e4 ρ hρ).1
    have hs : Rs tab w ok ρ (.sl nid T 0 none) v := hs
    cases hs with
    | tree hs => cases hs
    | sl _ _ _ _ sz N a a' cap m k1 k2 k3 k4 k5 k6 =>
      rw [hr] at k1
      simp only [Option.some.injEq, RB.row.injEq, true_and] at k1
      obtain ⟨-, hN, hv⟩ := k1
      subst hv
      obtain rfl := k6 rfl
      simp only [Option.getD_none, Nat.sub_zero] at k3
      subst k3
      exact .cons ⟨ty, q1, by simpa using hr⟩ .nil
  | deep hrow =>
    rename_i T els n
    obtain ⟨Bs, e1, e2, e3, e4⟩ := Zcm (.deep hrow) nid
    refine ⟨Bs, e1, e2, e3, fun ρ hρ => ⟨⟨(e4 ρ hρ).1, ?_⟩, (e4 ρ hρ).2⟩⟩
    obtain ⟨b, hb⟩ : ∃ b, Bs = [b] := by
      have : Bs.length = 1 := by have := congrArg List.length e1; simpa [ZaD] using this.symm
      match Bs, this with
      | [b], _ => exact ⟨b, rfl⟩
    subst hb
    have hb := (e4 ρ hρ).2 b (by simp)
    simp only [ZaD, List.map_cons, List.map_nil, List.cons.injEq, and_true] at e1
    rw [← e1] at hb
    obtain ⟨ty, v', n', q1, q2, q3, q4, q5⟩ := hb
    have hr := hρ 0 b rfl
    simp only [Nat.add_zero] at hr
    rw [q2] at hr
    have hs := (e4 ρ hρ).1
    have hs : Rs tab w ok ρ (.sl nid T 0 none) v := hs
    cases hs with
    | tree hs => cases hs
    | sl _ _ _ _ sz N a a' cap m k1 k2 k3 k4 k5 k6 =>
      rw [hr] at k1
      simp only [Option.some.injEq, RB.row.injEq, true_and] at k1
      obtain ⟨-, hN, hv⟩ := k1
      subst hv
      obtain rfl := k6 rfl
      simp only [Option.getD_none, Nat.sub_zero] at k3
      subst k3
      exact .cons ⟨ty, q1, by simpa using hr⟩ .nil
theorem lentIn1_cons (nid : Nat) (x : V) (xs : List V) : ZcP nid (x :: xs) = ZcP nid [x] ++ ZcP (nid + (ZaD nid x).2.length) xs := by
  cases x <;> simp [ZcP, ZaD]
theorem lentP1_cons (x : V) (xs : List V) (v : Value) (vs : List Value) : Zax (x :: xs) (v :: vs) = Zax [x] [v] ++ Zax xs vs := by
  cases x <;> simp [Zax]
theorem adoptAll1_lent {w : World} {ok : Nat → Prop} {xs : List V} {vs : List Value} {t n : List Nat} (h : RqL (Rq1 tab w ok) xs vs t n) :
    ∀ nid, Adopted tab w ok nid (Zak ZaD nid xs).2 t n fun ρ => RsL tab w ok ρ (Zak ZaD nid xs).1 vs ∧ LentR tab ρ (Zax xs vs) (ZcP nid xs) := by
  induction h with
  | nil => exact fun nid => .none fun ρ => ⟨.nil, .nil⟩
  | cons h1 _ ih =>
    intro nid
    refine (adopt1_lent h1 nid).append (ih _) fun ρ s1 s2 => ⟨RsL.cons s1.1 s2.1, ?_⟩
    rw [lentP1_cons, lentIn1_cons]
    exact s1.2.append s2.2
theorem adopt_lent {w : World} {ok : Nat → Prop} {x : V} {v : Value} {t n : List Nat} (h : Rq2 tab w ok x v t n) (nid : Nat) :
    Adopted tab w ok nid (Zby nid x).2 t n fun ρ => Rs tab w ok ρ (Zby nid x).1 v ∧ LentR tab ρ (ZbE x v) (lentOf nid x) := by
  have hagg : ∀ (cs : List V) (vs : List Value) (t n : List Nat), RqL (Rq1 tab w ok) cs vs t n → Adopted tab w ok nid (Zby nid (.agg cs)).2 t n fun ρ => Rs tab w ok ρ (Zby nid (.agg cs)).1 (.agg vs.toArray) ∧ LentR tab ρ (ZbE (.agg cs) (.agg vs.toArray)) (lentOf nid (.agg cs)) :=
    fun cs vs t n h => (adoptAll1_lent h nid).weaken fun ρ hs => ⟨Rs.agg _ _ hs.1.1 hs.1.2, hs.2⟩
  have hplain : (∀ ρ, LentR tab ρ (ZbE x v) (lentOf nid x)) → Adopted tab w ok nid (Zby nid x).2 t n fun ρ => Rs tab w ok ρ (Zby nid x).1 v ∧ LentR tab ρ (ZbE x v) (lentOf nid x) :=
    fun hl => (ZdB h nid).weaken fun ρ hs => ⟨hs, hl ρ⟩
  cases h with
  | agg h => exact hagg _ _ _ _ h
  | nb h hg => exact hplain fun ρ => .nil
  | @rf T cs c TT g t n h hg =>
    refine (ZdB (Rq2.rf (T := T) h hg) nid).weaken fun ρ hs => ⟨hs, ?_⟩
    have hs : Rs tab w ok ρ (.bp nid 0) (.pointer (some ⟨g, 0, none⟩)) := hs
    cases hs with
    | tree hs => cases hs
    | bp _ _ _ hr => exact .cons ⟨g, hr, rfl⟩ .nil
  | @ro T off cs c TT g t n h hg =>
    refine (ZdB (Rq2.ro (T := T) (off := off) h hg) nid).weaken fun ρ hs => ⟨hs, ?_⟩
    have hs : Rs tab w ok ρ (.bp nid off) (.pointer (some ⟨g, off, none⟩)) := hs
    cases hs with
    | tree hs => cases hs
    | bp _ _ _ hr => exact .cons ⟨g, hr, rfl⟩ .nil
  | one h =>
    cases h with
    | @row T own els v n h =>
      refine (adopt1_lent (.row h) nid).weaken fun ρ hs => ⟨hs.1, hs.2⟩
    | @deep T els v n h =>
      refine (adopt1_lent (.deep h) nid).weaken fun ρ hs => ⟨hs.1, hs.2⟩
    | tree h =>
      cases h with
      | agg cs vals hl h => exact hagg cs vals [] [] (.of_trees hl h)
      | _ => exact hplain fun ρ => .nil
theorem adoptAll_lent {w : World} {ok : Nat → Prop} {xs : List V} {vs : List Value} {t n : List Nat} (h : RqL (Rq2 tab w ok) xs vs t n) :
    ∀ nid, Adopted tab w ok nid (Zak Zby nid xs).2 t n fun ρ => RsL tab w ok ρ (Zak Zby nid xs).1 vs ∧ LentR tab ρ (Za3 xs vs) (lentIn nid xs) := by
  induction h with
  | nil => exact fun nid => .none fun ρ => ⟨.nil, .nil⟩
  | cons h1 _ ih =>
    intro nid
    refine (adopt_lent h1 nid).append (ih _) fun ρ s1 s2 => ⟨RsL.cons s1.1 s2.1, ?_⟩
    simp only [Za3, lentIn]
    exact s1.2.append s2.2
theorem lk_lent1 : ∀ {xs : List V} {vs : List Value}, vs.length = xs.length → (Zax xs vs).map (fun p => isDr p.1) = lk1 xs
  | [], [], _ => rfl
  | [], _ :: _, h => by simp at h
  | _ :: _, [], h => by simp at h
  | x :: xs, v :: vs, h => by
    have ih := lk_lent1 (xs := xs) (vs := vs) (by simpa using h)
    cases x <;> first | exact ih | exact congrArg (List.cons _) ih
theorem lk_lent {w : World} {ok : Nat → Prop} {x : V} {v : Value} {t n : List Nat} (h : Rq2 tab w ok x v t n) : (ZbE x v).map (fun p => isDr p.1) = lkOf x := by
  cases h with
  | agg h => simpa [ZbE, lkOf] using lk_lent1 h.length
  | nb h hg => rfl
  | rf h hg => rfl
  | ro h hg => rfl
  | one h =>
    cases h with
    | row h => rfl
    | deep h => rfl
    | tree h =>
      cases h with
      | agg cs vals hl h => simpa [ZbE, lkOf] using lk_lent1 hl
      | _ => rfl
theorem lk_lentL {w : World} {ok : Nat → Prop} {xs : List V} {vs : List Value} {t n : List Nat} (h : RqL (Rq2 tab w ok) xs vs t n) : (Za3 xs vs).map (fun p => isDr p.1) = xs.flatMap lkOf := by
  induction h with
  | nil => rfl
  | cons h1 _ ih => simp [Za3, ih, lk_lent h1]
theorem giveLent_spec {gone : Nat → Bool} {E : Entry} {M : Mem} (hM : MemOk tab E M) {ps : List (V × Value)} {ids : List Nat} (hl : LentL tab M ps ids) : ∀ {ys : List V} {K log : List Nat}, Zds gone ids M.hp = some ((ys, K), log) → alikeK (ps.map fun p => isDr p.1) ys = true →
    ∃ t n, Given E M K [] t n fun ok' => OutL (Rq2 tab M.w ok') ps ys t n := by
  induction hl with
  | nil =>
    intro ys K log h _
    cases Zj (h := M.hp) h
    exact ⟨[], [], .none fun _ _ => .nil⟩
  | @cons p id ps ids hp _ ih =>
    intro ys K log h hk
    obtain ⟨px, pv⟩ := p
    unfold Zds at h
    cases hgo : gone id with
    | true =>
      rw [hgo] at h
      obtain ⟨⟨ys', k'⟩, l3, b3, l3', h7, h8, h9⟩ := Zi h
      cases Zj h8
      cases h9
      simp only [List.map_cons, alikeK, Bool.and_eq_true] at hk
      obtain ⟨t2, n2, g2⟩ := ih h7 hk.2
      exact ⟨t2, n2, g2.mono fun ok' r2 => (OutL.cons (p := (px, pv)) (y := V.dead) (t := []) (n := []) trivial (.one (.tree (.dead _))) r2 : OutL _ _ _ ([] ++ t2) ([] ++ n2))⟩
    | false =>
    rw [hgo] at h
    obtain ⟨blk, l1, b1, l1', h1, h2, h3⟩ := Zi h
    obtain ⟨h1, -⟩ := Zan h1
    cases h3
    dsimp only at h1
    cases blk with
    | box T cs =>
      obtain ⟨⟨y, k⟩, l2, b2, l2', h4, h5, h6⟩ := Zi h2
      obtain ⟨⟨ys', k'⟩, l3, b3, l3', h7, h8, h9⟩ := Zi h5
      cases Zj h8
      cases h9; cases h6
      obtain ⟨g, c, TT, q1, q2, q3, q4, q5, q6⟩ := hM.box h1
      cases px with
      | rf T0 cs0 =>
        obtain ⟨g', e1, rfl⟩ := lent_box hp
        have hx : M.Rs tab E (.bp id 0) (.pointer (some ⟨g', 0, none⟩)) := .bp id 0 g' e1
        obtain ⟨t1, n1, g1⟩ := ZdE hM (.inr rfl) hx h4
        obtain ⟨-, T', cs', rfl, -⟩ := giveBox_lent hM hx h4
        simp only [List.map_cons, alikeK, Bool.and_eq_true] at hk
        obtain ⟨t2, n2, g2⟩ := ih h7 hk.2
        exact ⟨_, _, g1.append hM g2 fun ok' r1 r2 => .cons trivial r1 r2⟩
      | rr T0 o l =>
        obtain ⟨ty, e0, e1⟩ := (hp : ∃ ty, tab T0 = some ty ∧ M.ρ id = some (.row T0 ty.kinds.length l.length pv))
        rw [q1] at e1; cases e1
      | dr T0 l =>
        obtain ⟨ty, e0, e1⟩ := (hp : ∃ ty, tab T0 = some ty ∧ M.ρ id = some (.row T0 ty.kinds.length l.length pv))
        rw [q1] at e1; cases e1
      | _ => exact hp.elim
    | row T own els =>
      obtain ⟨⟨ys', k'⟩, l3, b3, l3', h7, h8, h9⟩ := Zi h2
      cases Zj h8
      cases h9
      obtain ⟨ty, v, xs, k1, k2, k3, k4, k5, k6, k7⟩ := hM.row h1
      cases px with
      | rf T0 cs0 =>
        obtain ⟨g', e1, rfl⟩ := lent_box hp
        rw [k2] at e1; cases e1
      | rr T0 o l =>
        obtain ⟨ty', e0, e1⟩ := (hp : ∃ ty, tab T0 = some ty ∧ M.ρ id = some (.row T0 ty.kinds.length l.length pv))
        rw [k2] at e1
        simp only [Option.some.injEq, RB.row.injEq] at e1
        obtain ⟨rfl, -, hlen, rfl⟩ := e1
        simp only [List.map_cons, alikeK, Bool.and_eq_true] at hk
        obtain ⟨t2, n2, g2⟩ := ih h7 hk.2
        have g1 : Given E M [id] [] (M.top id) (M.nest id) fun ok' => Rq2 tab M.w ok' (.rr T own els) v (M.top id) (M.nest id) :=
          ⟨fun g hg => ⟨id, by simp, hg⟩, fun g hg => by simp [Mem.foot, hg], fun _ => hM.nodup id, fun _ ok' o1 _ _ => by
            have := Rq1.row (k6.keep o1 (fun _ _ => rfl) fun _ _ => rfl)
            rw [← k5] at this
            exact .one this⟩
        exact ⟨_, _, (g1.append hM g2 fun ok' r1 r2 => .cons ⟨rfl, hlen⟩ r1 r2 : Given E M ([id] ++ k') ([] ++ []) _ _ _)⟩
      | dr T0 l => simp [alikeK, isDr] at hk
      | _ => exact hp.elim
    | hrow _ _ _ _ _ => exact (Zk (h := M.hp) h2).elim
    | grow _ _ => exact (Zk (h := M.hp) h2).elim
    | drow T els =>
      obtain ⟨⟨ys', k'⟩, l3, b3, l3', h7, h8, h9⟩ := Zi h2
      cases Zj h8
      cases h9
      obtain ⟨ty, v, xs, F, k1, k2, k3, k4, k5, k6, k7, k8⟩ := hM.drow h1
      cases px with
      | rf T0 cs0 =>
        obtain ⟨g', e1, rfl⟩ := lent_box hp
        rw [k2] at e1; cases e1
      | dr T0 l =>
        obtain ⟨ty', e0, e1⟩ := (hp : ∃ ty, tab T0 = some ty ∧ M.ρ id = some (.row T0 ty.kinds.length l.length pv))
        rw [k2] at e1
        simp only [Option.some.injEq, RB.row.injEq] at e1
        obtain ⟨rfl, -, hlen, rfl⟩ := e1
        simp only [List.map_cons, alikeK, Bool.and_eq_true] at hk
        obtain ⟨t2, n2, g2⟩ := ih h7 hk.2
        have g1 : Given E M [id] [] (M.top id) (M.nest id) fun ok' => Rq2 tab M.w ok' (.dr T els) v (M.top id) (M.nest id) :=
          ⟨fun g hg => ⟨id, by simp, hg⟩, fun g hg => by simp [Mem.foot, hg], fun _ => hM.nodup id, fun _ ok' o1 _ _ => by
            have := Rq1.deep (ok := ok') (k8.keep (fun _ h => h.elim) (fun _ h => h.elim) fun _ _ => rfl)
            rw [k6, k7]
            exact .one this⟩
        exact ⟨_, _, (g1.append hM g2 fun ok' r1 r2 => .cons ⟨rfl, hlen⟩ r1 r2 : Given E M ([id] ++ k') ([] ++ []) _ _ _)⟩
      | rr T0 o l => simp [alikeK, isDr] at hk
      | _ => exact hp.elim
end
end Go.Eng
namespace Go.Eng
section
variable {P : Program} {tab : Tab}
theorem loadAt_as {t : TypeId} {pv v : Value} {w w' : World} (h : (Instr.loadAt t pv).run P w = .ok v w') : (do loadVar t (← asAddr pv) : Sem Value).run P w = .ok v w' := by
  cases pv with
  | pointer a =>
    cases a with
    | some a => simpa [Instr.loadAt, Instr.sureAddr, asAddr] using h
    | none => simp [Instr.loadAt, Instr.sureAddr, stuck] at h
  | _ => simp [Instr.loadAt, Instr.sureAddr, stuck] at h
def resRun (tmps : Array Value) : ResultVar → Sem Value
  | .tmp t => pure (tmps.getD t undef)
  | .cell a t => do loadVar t (← asAddr (tmps.getD a undef))
theorem results_list (hT : Zv P tab) {E : Entry} {M : Mem} {s : St} {a : Act} (hM : MemOk tab E M) (hsl : Slots tab E M s.slot a) :
    ∀ (rs : List ResultVar) {vs : List V} {log : List Nat}, Zdu tab s rs M.hp = some (vs, log) → ∃ vals, (rs.mapM (resRun a.tmps)).run P M.w = .ok vals M.w ∧ RsL tab M.w (okS E M) M.ρ vs vals
  | [], vs, log, h => by
    cases Zj (h := M.hp) h
    exact ⟨[], by simp, .nil⟩
  | r :: rs, vs, log, h => by
    obtain ⟨v, l1, b1, l1', h1, h2, h3⟩ := Zi h
    obtain ⟨vs', l2, b2, l2', h4, h5, h6⟩ := Zi h2
    cases Zj h5
    cases h6; cases h3
    obtain ⟨vals, r1, r2⟩ := results_list hT hM hsl rs h4
    have hv : ∃ val, (resRun a.tmps r).run P M.w = .ok val M.w ∧ M.Rs tab E v val := by
      cases r with
      | tmp t =>
        cases Zj (h := M.hp) h1
        exact ⟨_, by simp [resRun, Act.eval], hsl t⟩
      | cell t T =>
        obtain ⟨val, k1, k2⟩ := load_sound hT hM (hsl t) h1
        exact ⟨val, loadAt_as k1, k2⟩
    obtain ⟨val, k1, k2⟩ := hv
    refine ⟨val :: vals, ?_, RsL.cons k2 r2⟩
    simp [List.mapM_cons, Sem.run_bind, k1, r1]
def tupOf (vs : List V) : V := match vs with | [v] => v | vs => .tup vs
theorem results_run (hT : Zv P tab) {E : Entry} {M : Mem} {s : St} {a : Act} (hM : MemOk tab E M) (hsl : Slots tab E M s.slot a) {fn : Func} {vs : List V} {log : List Nat}
    (h : Zdu tab s fn.results.toList M.hp = some (vs, log)) : ∃ val, (results fn a.tmps).run P M.w = .ok val M.w ∧ M.Rs tab E (tupOf vs) val := by
  obtain ⟨vals, h1, h2⟩ := results_list hT hM hsl fn.results.toList h
  have hrun : (results fn a.tmps).run P M.w = .ok (if h : vals.toArray.size = 1 then vals.toArray[0] else .tuple vals.toArray) M.w := by
    have hmap : (fn.results.mapM (resRun a.tmps)).run P M.w = .ok vals.toArray M.w := by
      rw [Array.mapM_eq_mapM_toList, Sem.run_map, h1]
      rfl
    have : results fn a.tmps = (do let vs ← fn.results.mapM (resRun a.tmps); pure (if h : vs.size = 1 then vs[0] else .tuple vs)) := by
      unfold results
      congr 1
    rw [this, Sem.run_bind, hmap]
    rfl
  refine ⟨_, hrun, ?_⟩
  clear h h1 hrun
  match vs, vals, h2 with
  | [v], [val], h2 => simpa [tupOf] using h2.head.1
  | [], [], h2 => exact .tup [] [] h2.1 h2.2
  | v :: v' :: vs, val :: val' :: vals, h2 =>
    have := Rs.tup _ _ h2.1 h2.2
    simpa [tupOf] using this
  | [], _ :: _, h2 => have := h2.1; simp at this
  | _ :: _, [], h2 => have := h2.1; simp at this
  | [_], _ :: _ :: _, h2 => have := h2.1; simp at this
  | _ :: _ :: _, [_], h2 => have := h2.1; simp at this
theorem look_blks (us : Us) : (look us.blks : Zam) = fun i => (ZS us i).map fun b => some b.blk := by
  funext i
  induction us with
  | nil => rfl
  | cons u us ih =>
    simp only [Us.blks, List.map_cons] at ih ⊢
    rw [Zz, ih]
    simp only [ZS]
    by_cases e : i = u.1
    · simp [e]
    · rw [if_neg e, if_neg (Ne.symm e)]
theorem entry_ok {tab : Tab} {w : World} {ok : Nat → Prop} {t n : List Nat} {us : Us} (hkeys : (us.map (·.1)).Nodup) (ht : t = us.flatMap (·.2.t)) (hn : n = us.flatMap (·.2.n)) (hnd : (t ++ n).Nodup)
    (hok : ∀ g, ok g → g < w.heap.size ∧ g ∉ t) (hlt : ∀ g ∈ t ++ n, g < w.heap.size) (M : Mem)
    (hMe : M = { w := w, ρ := fun i => (ZS us i).map (·.rb), top := fun i => ((ZS us i).map (·.t)).getD [], nest := fun i => ((ZS us i).map (·.n)).getD [], hp := look us.blks })
    (hb : ∀ u ∈ us, BlkIs tab w ok M.ρ u.2.blk (some u.2.rb) u.2.t u.2.n) :
    MemOk tab { W0 := w, okA := ok, Ft := t, Fn := n } M ∧ ∀ g, ok g → okS { W0 := w, okA := ok, Ft := t, Fn := n } M g := by
  have htop : ∀ id, ∀ g ∈ M.top id, g ∈ t := by
    intro id g hg
    rw [hMe] at hg
    cases hl : ZS us id with
    | none => simp [hl] at hg
    | some b => simp [hl] at hg; rw [ht]; exact (mem_t hl).1 g hg
  have hnest : ∀ id, ∀ g ∈ M.nest id, g ∈ n := by
    intro id g hg
    rw [hMe] at hg
    cases hl : ZS us id with
    | none => simp [hl] at hg
    | some b => simp [hl] at hg; rw [hn]; exact (mem_t hl).2 g hg
  have hw : M.w = w := by rw [hMe]
  have hokS : ∀ g, ok g → okS { W0 := w, okA := ok, Ft := t, Fn := n } M g := fun g hg =>
    ⟨.inl hg, by rw [hw]; exact (hok g hg).1, fun id hid => (hok g hg).2 (htop id g hid)⟩
  rw [ht, hn] at hnd
  obtain ⟨f1, f2⟩ := flat_nodup hnd
  rw [← ht, ← hn] at hnd
  have hhp : M.hp = fun i => (ZS us i).map fun b => some b.blk := by rw [hMe]; exact look_blks us
  have hget : ∀ id, (ZS us id = none ∧ M.ρ id = none ∧ M.top id = [] ∧ M.nest id = []) ∨ ∃ b, ZS us id = some b ∧ M.ρ id = some b.rb ∧ M.top id = b.t ∧ M.nest id = b.n := fun id => by
    cases hl : ZS us id with
    | none => exact .inl ⟨rfl, by rw [hMe]; simp [hl], by rw [hMe]; simp [hl], by rw [hMe]; simp [hl]⟩
    | some b => exact .inr ⟨b, rfl, by rw [hMe]; simp [hl], by rw [hMe]; simp [hl], by rw [hMe]; simp [hl]⟩
  refine ⟨⟨fun id b h => ?_, fun id h => ?_, fun id h => ?_, fun id => ?_, fun id id' hne g hg hg' => ?_, fun id g hg => ?_, fun id g hg => ?_, ?_⟩, hokS⟩
  · rw [hhp] at h
    rcases hget id with ⟨e, _⟩ | ⟨b', e, e1, e2, e3⟩
    · simp [e] at h
    · simp [e] at h
      subst h
      rw [e1, e2, e3, hw]
      exact (hb _ (ZcC e)).keep (fun _ _ h => h) hokS (fun _ _ => rfl) fun _ _ => rfl
  · rcases hget id with ⟨_, e⟩ | ⟨b', e, e1, e2, e3⟩
    · exact e
    · rw [hhp] at h; simp [e] at h
  · rcases hget id with ⟨_, e⟩ | ⟨b', e, e1, e2, e3⟩
    · exact e.2
    · rw [hhp] at h; simp [e] at h
  · rcases hget id with ⟨_, _, e2, e3⟩ | ⟨b', e, e1, e2, e3⟩
    · rw [e2, e3]; simp
    · rw [e2, e3]; exact f1 _ (ZcC e)
  · rcases hget id with ⟨_, _, e2, e3⟩ | ⟨b, e, e1, e2, e3⟩
    · rw [e2, e3] at hg; simp at hg
    · rcases hget id' with ⟨_, _, e2', e3'⟩ | ⟨b', e', e1', e2', e3'⟩
      · rw [e2', e3'] at hg'; simp at hg'
      · rw [e2, e3] at hg; rw [e2', e3'] at hg'
        exact f2 id id' b b' e e' hne g hg hg'
  · have hmem : g ∈ t ++ n := by
      rcases List.mem_append.1 hg with hg | hg
      · exact List.mem_append_left _ (htop id g hg)
      · exact List.mem_append_right _ (hnest id g hg)
    exact ⟨.inl hmem, by rw [hw]; exact hlt g hmem⟩
  · exact .inl (htop id g hg)
  · rw [hw]; exact .refl _ _
theorem ZdM : ∀ (vs : List V) (n t : Nat), (look (ZbP n vs) t).getD .dead = if n ≤ t then vs.getD (t - n) .dead else .dead
  | [], n, t => by simp [ZbP, look_nil]
  | v :: vs, n, t => by
    simp only [ZbP]
    rw [Zz]
    by_cases h1 : t = n
    · subst h1; simp
    · rw [if_neg h1, ZdM vs (n + 1) t]
      by_cases h2 : n ≤ t
      · have : t - n = (t - (n + 1)) + 1 := by omega
        rw [if_pos (by omega), if_pos h2, this]; simp
      · rw [if_neg (by omega), if_neg h2]
theorem kept_inv {ks : List Bool} {o : Option (V × List V)} {r : V × List V} (h : kept ks o = some r) : o = some r ∧ alikeK ks r.2 = true := by
  cases o with
  | none => cases h
  | some x =>
    simp only [kept] at h
    cases hk : alikeK ks x.2 with
    | false => rw [hk] at h; cases h
    | true => rw [hk] at h; cases h; exact ⟨rfl, hk⟩
theorem cutS_sound (hT : Zv P tab) {E : Entry} {N : Nat} {ps : List (V × Value)} {M : Mem} {s : St} {a : Act} (h : Rel tab E N ps M s a) (t : Nat) : ∃ M', M'.w = M.w ∧ Rel tab E N ps M' (cutS s t) a := by
  unfold cutS
  split
  · rename_i id T n hs
    have := thaw1_sound hT h ⟨t, none, true⟩
    unfold thaw1 at this
    simp only [hs] at this
    exact this
  · exact ⟨M, rfl, h⟩
theorem cutAll_sound (hT : Zv P tab) {E : Entry} {N : Nat} {ps : List (V × Value)} {a : Act} : ∀ (ts : List Nat) {M : Mem} {s : St}, Rel tab E N ps M s a → ∃ M', M'.w = M.w ∧ Rel tab E N ps M' (cutAll s ts) a
  | [], M, s, h => ⟨M, rfl, h⟩
  | t :: ts, M, s, h => by
    obtain ⟨M1, h1, h2⟩ := cutS_sound hT h t
    obtain ⟨M2, h3, h4⟩ := cutAll_sound hT ts h2
    exact ⟨M2, h3.trans h1, h4⟩
theorem fn_sound_of (hT : Zv P tab) {f : FuncId} {fn : Func} {c : Code} (hf : P.funcs[f]? = some fn) (hb : fn.body = some c) {args : List V} (hlen : args.length ≤ fn.ntmps) (cuts : List Nat) {r : V × List V}
    (hcode : ∀ (E : Entry) (ps : List (V × Value)), ∃ e s', (match e with | .exit _ => none | _ => kept (args.flatMap lkOf) (finish tab fn.results.toList (cutAll (Zc4 tab s' s'.lent) cuts))) = some r ∧
      ∀ (M : Mem) (a : Act), Rel tab E fn.ntmps ps M (entry args) a → ∀ Q : Exit → Act → World → Prop, (∀ M' a', Rel tab E fn.ntmps ps M' s' a' → Q (exitOf e) a' M'.w) → c.wp P Q a M.w) : SumOk P tab f args r := by
  intro w ok vals t n hr hnd hok hlt
  obtain ⟨Bs, b0, b1, b2, b3, b4⟩ := (adoptAll_lent hr 0).numB
  obtain ⟨e, s', hk, hw⟩ := hcode { W0 := w, okA := ok, Ft := t, Fn := n } (Za3 args vals)
  have hvl := hr.length
  have hu := numB_nodup 0 Bs
  have hρ0 : ∀ u ∈ numB 0 Bs, (fun i => (ZS (numB 0 Bs) i).map (·.rb)) u.1 = some u.2.rb := fun u hu' => by simp [lookU_of hu hu']
  obtain ⟨⟨s1, s2⟩, s3⟩ := b4 (fun i => (ZS (numB 0 Bs) i).map (·.rb)) hρ0
  obtain ⟨m1, m2⟩ := entry_ok hu b2 b3 hnd hok hlt _ rfl s3
  generalize hM0 : ({ w := w, ρ := fun i => (ZS (numB 0 Bs) i).map (·.rb), top := fun i => ((ZS (numB 0 Bs) i).map (·.t)).getD [], nest := fun i => ((ZS (numB 0 Bs) i).map (·.n)).getD [], hp := look (Us.blks (numB 0 Bs)) } : Mem) = M0 at m1 m2
  have hM0w : M0.w = w := by rw [← hM0]
  have hM0ρ : M0.ρ = fun i => (ZS (numB 0 Bs) i).map (·.rb) := by rw [← hM0]
  have hM0hp : M0.hp = look (Us.blks (numB 0 Bs)) := by rw [← hM0]
  refine calls_of_wp hf hb ?_
  have hsz : (vals.toArray ++ Array.replicate (fn.ntmps - vals.toArray.size) undef).size = fn.ntmps := by simp; omega
  have hrel : Rel tab { W0 := w, okA := ok, Ft := t, Fn := n } fn.ntmps (Za3 args vals) M0 (entry args) { tmps := vals.toArray ++ Array.replicate (fn.ntmps - vals.toArray.size) undef, defers := [] } := by
    refine ⟨⟨m1, .refl _ _, ?_, fun u => ?_⟩, LentR.of (by rw [hM0ρ]; exact s2), fun id hid => ?_, hsz, rfl⟩
    · rw [hM0hp, ← b1]; rfl
    · have : (entry args).F.sl u = (Zak Zby 0 args).1.getD u .dead := by
        show (look (ZbP 0 _) u).getD .dead = _
        rw [ZdM]; simp
      rw [this]
      by_cases hu' : u < (Zak Zby 0 args).1.length
      · have hv := s1.2 u hu'
        rw [← hM0ρ] at hv
        have hv' := hv.mono (ok' := okS { W0 := w, okA := ok, Ft := t, Fn := n } M0) (w' := M0.w) (fun _ _ h => h) m2 fun _ _ => by rw [hM0w]
        have he : ({ tmps := vals.toArray ++ Array.replicate (fn.ntmps - vals.toArray.size) undef, defers := [] } : Act).eval (.tmp u) = vals.getD u undef := by
          have hl : u < vals.length := by rw [s1.1]; exact hu'
          simp [Act.eval, Array.getElem?_append, hl, List.getD]
        rw [he]; exact hv'
      · have : (Zak Zby 0 args).1.getD u .dead = .dead := by simp [List.getD, List.getElem?_eq_none (Nat.le_of_not_lt hu')]
        rw [this]; exact .tree (.dead _)
    · show look (Zca 0 _) id = none
      have hid' : (Zak Zby 0 args).2.length ≤ id := hid
      rw [b1, look_blks]
      simp only [Option.map_eq_none_iff]
      rw [lookU_none]
      intro hm
      obtain ⟨u, hu', e⟩ := List.mem_map.1 hm
      have := ZcZ u hu'
      omega
  have main := hw M0 _ hrel
  rw [hM0w] at main
  refine main _ fun M1 a' hR1 => ?_
  obtain ⟨M1', hw2', hR1'⟩ := shutAll_sound hT s'.lent hR1
  obtain ⟨M', hw2'', hR'⟩ := cutAll_sound hT cuts hR1'
  have hw2 := hw2''.trans hw2'
  rw [← hw2]
  have hfin : (∀ id, e ≠ .exit id) → kept (args.flatMap lkOf) (finish tab fn.results.toList (cutAll (Zc4 tab s' s'.lent) cuts)) = some r := fun hne => by
    cases e with
    | exit id => exact absurd rfl (hne id)
    | normal => exact hk
    | ret => exact hk
  have hpost : kept (args.flatMap lkOf) (finish tab fn.results.toList (cutAll (Zc4 tab s' s'.lent) cuts)) = some r → a'.defers = [] ∧ ∃ v, (results fn a'.tmps).run P M'.w = .ok v M'.w ∧
      (fun e w' => ∃ val, e = Ending.returned val ∧ After tab w ok args vals t n r val w') (.returned v) M'.w := by
    intro hfi
    obtain ⟨hfi, hal⟩ := kept_inv hfi
    refine ⟨hR'.defers, ?_⟩
    unfold finish at hfi
    split at hfi
    · rename_i r' log hq
      cases hfi
      rw [show (cutAll (Zc4 tab s' s'.lent) cuts).heap = M'.hp from hR'.rel.hp.symm] at hq
      obtain ⟨vs, l1, x1, l1', h1, h2, h3⟩ := Zi hq
      obtain ⟨⟨y, K1⟩, l2, x2, l2', h4, h5, h6⟩ := Zi h2
      obtain ⟨⟨ys, K2⟩, l3, x3, l3', h7, h8, h9⟩ := Zi h5
      obtain ⟨h10, h11⟩ := Zt h8
      cases Zj h11
      cases h9; cases h6; cases h3
      obtain ⟨val, hrun, hval⟩ := results_run hT hR'.rel.mem hR'.rel.slots h1
      refine ⟨val, hrun, val, rfl, ?_⟩
      obtain ⟨rt, rn, g1⟩ := giveRes_spec hR'.rel.mem hval h4
      obtain ⟨ot, on, g2⟩ := giveLent_spec hR'.rel.mem hR'.lent h7 (by rw [lk_lentL hr]; exact hal)
      have g := g2.append hR'.rel.mem g1 (Q := fun ok' => Rq3 tab M'.w ok' y val rt rn ∧ OutL (Rq2 tab M'.w ok') (Za3 args vals) ys ot on) fun ok' q2 q1 => ⟨q1, q2⟩
      have hKn : (K2 ++ K1).Nodup := (List.perm_append_comm.nodup_iff).1 (Zb7 h10)
      have hmem := hR'.rel.mem
      have hmine : ∀ k g, g ∈ M'.top k ++ M'.nest k → (g ∈ t ++ n ∨ w.heap.size ≤ g) ∧ g < M'.w.heap.size := fun k g hg => hmem.mine k g hg
      have o1 : ∀ g', okS { W0 := w, okA := ok, Ft := t, Fn := n } M' g' → (ok g' ∨ g' ∈ t ++ n ∨ w.heap.size ≤ g') ∧ g' < M'.w.heap.size ∧ g' ∉ ot ++ rt := fun g' hg' => by
        refine ⟨hg'.1, hg'.2.1, fun hgt => ?_⟩
        obtain ⟨k, _, hgk⟩ := g.top g' hgt
        exact hg'.2.2 k hgk
      have o2 : ∀ k ∈ K2 ++ K1, ∀ g' ∈ M'.top k, g' ∉ ot ++ rt → (ok g' ∨ g' ∈ t ++ n ∨ w.heap.size ≤ g') ∧ g' < M'.w.heap.size ∧ g' ∉ ot ++ rt := fun k _ g' hg' hgt =>
        ⟨.inr (hmine k g' (List.mem_append_left _ hg')).1, (hmine k g' (List.mem_append_left _ hg')).2, hgt⟩
      obtain ⟨q1, q2⟩ := g.is hKn (fun g => (ok g ∨ g ∈ t ++ n ∨ w.heap.size ≤ g) ∧ g < M'.w.heap.size ∧ g ∉ ot ++ rt) o1 o2 (by simp)
      refine ⟨rt, rn, ot, on, q1, q2, g.nodup hKn, fun g' hg' => ?_, fun g' hg' => ?_, fun g' hg' => ?_, hmem.kept⟩
      · obtain ⟨k, _, hgk⟩ := g.top g' hg'
        exact hmem.mineT k g' hgk
      · obtain ⟨k, _, hgk⟩ := Mem.mem_foot.1 (g.nest g' hg')
        exact (hmine k g' hgk).1
      · obtain ⟨k, _, hgk⟩ := Mem.mem_foot.1 (g.foot g' hg')
        exact (hmine k g' hgk).2
    · cases hfi
  cases e with
  | normal => exact hpost (hfin (by simp))
  | ret => exact hpost (hfin (by simp))
  | exit id => cases hk
theorem fn_sound {cfg : Cfg} (hT : Zv P cfg.tab) (hS : ZaV P cfg.tab cfg.sums) (hmix : P.follows .mixedOrders = true) (L : Loops) {f : FuncId} {fn : Func} {c : Code} (hf : P.funcs[f]? = some fn) (hb : fn.body = some c)
    (hc : ZaE fn.ntmps c = true) (hL : ZQ cfg L c) {args : List V} (hlen : args.length ≤ fn.ntmps) {r : V × List V} (h : evalFn cfg L fn args = some r) : SumOk P cfg.tab f args r := by
  unfold evalFn at h
  rw [hb] at h
  exact fn_sound_of hT hf hb hlen L.cuts fun E ps => Zcp hT hS hmix L E fn.ntmps ps c hc hL _ _ _ _ h
end
end Go.Eng
namespace Go.Eng
def zeroB : Ck → Value → Bool
  | .int k, .int k' n => decide (k' = k) && decide (n = 0)
  | .bool, .bool b => !b
  | .str, .string s => s.data.toList.isEmpty
  | .sl _, .slice none 0 0 => true
  | .ptr, .pointer none => true
  | .fn, .nilFunc => true
  | .other, .nilIface => true
  | _, _ => false
theorem zeroB_spec {k : Ck} {v : Value} (h : zeroB k v = true) : v = Zbr k := by
  unfold zeroB at h
  split at h
  · simp at h; obtain ⟨rfl, rfl⟩ := h; rfl
  · simp at h; subst h; rfl
  · rename_i s
    obtain ⟨⟨l⟩⟩ := s
    cases l with
    | nil => rfl
    | cons _ _ => simp at h
  all_goals first | rfl | (cases h)
def zerosB : List Ck → List Value → Bool
  | [], [] => true
  | k :: ks, v :: vs => zeroB k v && zerosB ks vs
  | _, _ => false
theorem zerosB_spec : ∀ {ks : List Ck} {vs : List Value}, zerosB ks vs = true → vs = ks.map Zbr
  | [], [], _ => rfl
  | k :: ks, v :: vs, h => by
    simp only [zerosB, Bool.and_eq_true] at h
    rw [List.map_cons, zeroB_spec h.1, zerosB_spec h.2]
  | [], _ :: _, h => by cases h
  | _ :: _, [], h => by cases h
def flatB (d : TypeDesc) (ks : List Ck) (el : Option TypeId) : Bool :=
  match d, ks with
  | .int k, [.int k'] => decide (k = k') && el.isNone
  | .string, [.str] => el.isNone
  | .bool, [.bool] => el.isNone
  | .slice e, [.sl e'] => decide (e = e') && decide (el = some e)
  | .pointer _, [.ptr] => el.isNone
  | .func .., [.fn] => el.isNone
  | _, _ => false
def tyOkB (P : Program) (T : TypeId) (ty : Ty) : Bool :=
  match P.info? T with
  | none => false
  | some i => match i.zero with
    | none => false
    | some z => decide (i.size = ty.kinds.length) && (decide (i.bytes = ty.bytes) && (zerosB ty.kinds z.cells.toList && (decide (0 < ty.kinds.length) &&
      match P.underlying T with
      | some (.struct fs) => ty.agg && ((match z with | .agg _ => true | _ => false) && (decide (fs.toList.map (fun f => (f.offset, f.type)) = ty.fields) && (fs.toList.all (fun f => (P.info? f.type).isSome) && (ty.elem.isNone && ((!eqTy ty || (!P.stoodInHeld T && (!P.eqGuardType P.depth T && eqFsB P (P.fieldsOf T).toList ty.kinds 0))) && (!eqTyN ty || (!P.stoodInHeld T && (!P.eqGuardType P.depth T && eqFsN P (P.fieldsOf T).toList ty.kinds))))))))
      | some d => !ty.agg && (ty.fields.isEmpty && flatB d ty.kinds ty.elem)
      | none => false)))
theorem tyOkB_spec {P : Program} {tab : Tab} {T : TypeId} {ty : Ty} (h : tyOkB P T ty = true) : TyOk P tab T ty := by
  unfold tyOkB at h
  split at h
  · cases h
  · rename_i i hi
    split at h
    · cases h
    · rename_i z hz
      simp only [Bool.and_eq_true, decide_eq_true_eq] at h
      obtain ⟨h1, h2, h3, h4, h5⟩ := h
      have h3 := zerosB_spec h3
      split at h5
      · rename_i fs hu
        simp only [Bool.and_eq_true, decide_eq_true_eq, List.all_eq_true] at h5
        obtain ⟨ha, hzz, hf, hinf, hel, heq, heqn⟩ := h5
        have hz2 : z = .agg z.cells := by
          cases z <;> first | rfl | (simp at hzz)
        refine ⟨⟨i, z, hi, h1, h2, hz, h3, fun _ => hz2⟩, h4, fun _ => ⟨fs, hu, hf, fun f hfm => Option.isSome_iff_exists.1 (hinf f hfm)⟩, fun h => ?_, fun e he => ?_, fun _ h => ?_, fun h => ?_, fun h => ?_, fun _ h => ?_, fun h => ?_, fun h => ?_⟩
        rotate_right
        · rw [h] at heqn
          simpa using heqn
        rotate_right
        · rw [h] at heq
          simpa using heq
        · rw [ha] at h; cases h
        · rw [he] at hel; cases hel
        all_goals (rw [ha] at h; cases h)
      · rename_i d hns hu
        simp only [Bool.and_eq_true, Bool.not_eq_true', List.isEmpty_iff] at h5
        obtain ⟨ha, hf, hfl⟩ := h5
        have hfl' := hfl
        unfold flatB at hfl
        have hlen : ty.kinds.length = 1 ∧ (∀ fs, d ≠ .struct fs) ∧ (∀ n e, d ≠ .array n e) := by
          split at hfl <;> first | (cases hfl; done) | (rename_i hk; simp [hk])
        refine ⟨⟨i, z, hi, h1, h2, hz, h3, fun h => (by rw [ha] at h; cases h)⟩, h4, fun h => (by rw [ha] at h; cases h), fun _ => ⟨hlen.1, hf, d, hu, hlen.2.1, hlen.2.2⟩, fun e he => ?_, fun k _ hk => ?_, fun _ hk => ?_, fun _ hk => ?_, fun e _ hk => ?_, fun h => (by unfold eqTy at h; rw [ha] at h; cases h), fun h => (by unfold eqTyN at h; rw [ha] at h; cases h)⟩
        · split at hfl <;> simp_all
        · split at hfl <;> simp_all
        · split at hfl <;> simp_all
        · split at hfl <;> simp_all
        · split at hfl <;> simp_all
      · cases h5
def tabOf (ch : List (List (Option Ty))) : Tab := fun T => (ch.getD (T / 16) []).getD (T % 16) none
def tabB (P : Program) (ch : List (List (Option Ty))) : Bool := (List.range (16 * ch.length)).all fun T => match tabOf ch T with | some ty => tyOkB P T ty | none => true
theorem tabB_spec {P : Program} {ch : List (List (Option Ty))} (h : tabB P ch = true) : Zv P (tabOf ch) := by
  intro T ty hT
  have hlt : T < 16 * ch.length := by
    rcases Nat.lt_or_ge T (16 * ch.length) with h | h
    · exact h
    · exfalso
      have : ch.length ≤ T / 16 := by omega
      unfold tabOf at hT
      rw [show ch.getD (T / 16) [] = [] from by simp [List.getD, List.getElem?_eq_none this]] at hT
      simp at hT
  unfold tabB at h
  rw [List.all_eq_true] at h
  have := h T (List.mem_range.2 hlt)
  rw [hT] at this
  exact tyOkB_spec this
theorem look_mem {α : Type} {l : List (Nat × α)} {i : Nat} {x : α} (h : look l i = some x) : (i, x) ∈ l := by
  induction l with
  | nil => simp [look_nil] at h
  | cons p l ih =>
    rw [Zz] at h
    split at h
    · rename_i e
      cases h; subst e; simp
    · exact List.mem_cons_of_mem _ (ih h)
def entersB (P : Program) (f : FuncId) : Bool := match P.funcs[f]? with
  | some fn => !(fn.name == "runtime.NumGoroutine") && fn.body.isSome
  | none => false
theorem entersB_spec {P : Program} {f : FuncId} (h : entersB P f = true) : Enters P f := by
  unfold entersB at h
  split at h
  · rename_i fn hf
    simp only [Bool.and_eq_true, Bool.not_eq_true'] at h
    exact ⟨fn, hf, h.1, by cases hb : fn.body <;> simp_all⟩
  · cases h
end Go.Eng
namespace Go.Eng
def Z6 (fn : Func) : Code := fn.body.getD .skip
def fnOk (fn : Func) : Bool := fn.body.isSome && ZaE fn.ntmps (Z6 fn)
def Zb8 : Code → List Code
  | .seq a b => Zb8 a ++ Zb8 b
  | .cond _ a b => Zb8 a ++ Zb8 b
  | .block _ a => Zb8 a
  | .loop a => a :: Zb8 a
  | _ => []
theorem ZcJ {cfg : Cfg} {L : Loops} : ∀ (c : Code), (∀ a ∈ Zb8 c, ∀ s o r, L.run (ZaZ a) s = some o → o.get = some r → ∃ n, Z9 cfg L a n s = some r) → ZQ cfg L c
  | .seq a b, h => ⟨ZcJ a fun x hx => h x (List.mem_append_left _ hx), ZcJ b fun x hx => h x (List.mem_append_right _ hx)⟩
  | .cond _ a b, h => ⟨ZcJ a fun x hx => h x (List.mem_append_left _ hx), ZcJ b fun x hx => h x (List.mem_append_right _ hx)⟩
  | .block _ a, h => ZcJ a h
  | .loop a, h => ⟨h a (by simp [Zb8]), ZcJ a fun x hx => h x (by simp [Zb8, hx])⟩
  | .skip, _ => trivial
  | .region _ _ _, _ => trivial
  | .rangeFunc _ _ _ _, _ => trivial
  | .exit _, _ => trivial
  | .scope _, _ => trivial
  | .label _, _ => trivial
  | .goto _, _ => trivial
  | .ret, _ => trivial
  | .refuse _, _ => trivial
structure Base (P : Program) (tab : Tab) : Prop where
  tab : Zv P tab
  mixed : P.follows .mixedOrders = true
theorem Base.fn {P : Program} {cfg : Cfg} (hB : Base P cfg.tab) (hS : ZaV P cfg.tab cfg.sums) {f : FuncId} {fn : Func} (hf : P.funcs[f]? = some fn) (hok : fnOk fn = true) {L : Loops} (hL : ZQ cfg L (Z6 fn))
    {args : List V} (hlen : Nat.ble args.length fn.ntmps = true) {r : V × List V} (h : evalFn cfg L fn args = some r) : SumOk P cfg.tab f args r := by
  simp only [fnOk, Bool.and_eq_true] at hok
  have hb : fn.body = some (Z6 fn) := by
    unfold Z6
    cases hq : fn.body with
    | none => rw [hq] at hok; simp at hok
    | some c => rfl
  exact fn_sound hB.tab hS hB.mixed L hf hb hok.2 hL (Nat.le_of_ble_eq_true hlen) h
theorem ZbQ {P : Program} {f : FuncId} {fn : Func} (hf : P.funcs[f]? = some fn) (h : (!(fn.name == "runtime.NumGoroutine") && fn.body.isSome) = true) : Enters P f := by
  refine entersB_spec ?_
  unfold entersB
  rw [hf]; exact h
end Go.Eng
namespace Go.Eng
section
variable {P : Program} {tab : Tab}
inductive S1 where
  | int (k : IntKind) | bool | str | inl (T : TypeId) | rr (T : TypeId) (own : Bool)
  | nil (T : TypeId) | sl (id : Nat) (T : TypeId) | slo (id : Nat) (T : TypeId) | sll (id : Nat) (T : TypeId)
  | bp (id off : Nat) | rp (id off : Nat) | dead | dr (T : TypeId)
  deriving Inhabited
def wk1 : S1 → V → V
  | .rr T own, .nil _ => .rr T own []
  | .rr T false, .rr T' o l => bif Nat.beq T T' then .rr T false l else .rr T' o l
  | .inl T, .nil _ => .inl T []
  | .inl T, .rr T' o l => bif Nat.beq T T' then .inl T l else .rr T' o l
  | _, v => v
def wkL : List S1 → List V → List V
  | s :: ss, v :: vs => wk1 s v :: wkL ss vs
  | _, vs => vs
def wkV (ss : List S1) : V → V
  | .agg cs => .agg (wkL ss cs)
  | .nb T cs => .nb T (wkL ss cs)
  | .rf T cs => .rf T (wkL ss cs)
  | .ro T off cs => .ro T off cs
  | v => match ss with
    | s :: _ => wk1 s v
    | [] => v
def wkVs : List (List S1) → List V → List V
  | s :: ss, v :: vs => wkV s v :: wkVs ss vs
  | _, vs => vs
def wkR (ss : List (List S1)) : V → V
  | .tup vs => .tup (wkVs ss vs)
  | v => match ss with
    | s :: _ => wkV s v
    | [] => v
def wkO (ss : List S1) : V → V
  | .rf T cs => .rf T (wkL ss cs)
  | v => v
def wkOs : List (List S1) → List V → List V
  | s :: ss, v :: vs => wkO s v :: wkOs ss vs
  | _, vs => vs
def wkF (ss os : List (List S1)) (r : V × List V) : V × List V := (wkR ss r.1, wkOs os r.2)
def s1Ok (tab : Tab) : S1 → Bool
  | .rr T _ => (tab T).isSome
  | .inl T => (tab T).isSome
  | _ => true
def Weak (R : (Nat → Prop) → V → Value → List Nat → List Nat → Prop) (ok : Nat → Prop) (y : V) (v : Value) (t n : List Nat) : Prop :=
  ∃ t' n', t'.Sublist t ∧ n'.Sublist n ∧ ∀ ok' : Nat → Prop, (∀ g, ok g → ok' g) → (∀ g ∈ t ++ n, g ∉ t' → ok' g) → R ok' y v t' n'
theorem Weak.same {R : (Nat → Prop) → V → Value → List Nat → List Nat → Prop} {ok : Nat → Prop} {y : V} {v : Value} {t n : List Nat} (h : ∀ ok' : Nat → Prop, (∀ g, ok g → ok' g) → R ok' y v t n) : Weak R ok y v t n :=
  ⟨t, n, .refl _, .refl _, fun ok' h1 _ => h ok' h1⟩
theorem wk1_rq {w : World} {ok : Nat → Prop} {s : S1} (hs : s1Ok tab s = true) {x : V} {v : Value} {t n : List Nat} (h : Rq1 tab w ok x v t n) (hnd : (t ++ n).Nodup) : Weak (Rq1 tab w) ok (wk1 s x) v t n := by
  have hsame : Weak (Rq1 tab w) ok x v t n := .same fun ok' h1 => h.keep h1
  unfold wk1
  split
  · rename_i T own T'
    cases h with | tree h =>
    cases h with | nil _ a =>
    obtain ⟨ty, hty⟩ := Option.isSome_iff_exists.1 (by simpa [s1Ok] using hs : (tab T).isSome = true)
    refine .same fun ok' _ => ?_
    have : Rq1 tab w ok' (.rr T own []) (.slice a 0 0) (Zo (.slice a 0 0)) [] :=
      .row ⟨ty, [], hty, ⟨by simp, .inl ⟨a, rfl, rfl⟩⟩, by simp, by
        cases own
        · exact .inr ⟨rfl, rfl, by simp⟩
        · exact .inl ⟨rfl, fun _ _ => [], by simp [Zx], by simp⟩⟩
    have e : Zo (.slice a 0 0) = [] := by cases a <;> rfl
    rw [e] at this; exact this
  · rename_i T T' o l
    cases hb : Nat.beq T T' with
    | false => exact hsame
    | true =>
      obtain rfl := Nat.eq_of_beq_eq_true hb
      cases h with
      | tree h => cases h
      | row h =>
      obtain ⟨ty, xs, h1, h2, h3, h4⟩ := h
      rcases h4 with ⟨ho, F, rfl, h4⟩ | ⟨ho, rfl, h4⟩
      · refine ⟨Zo v, [], .refl _, List.nil_sublist _, fun ok' k1 k2 => .row ⟨ty, xs, h1, h2, h3, .inr ⟨rfl, rfl, fun i j hi hj => ?_⟩⟩⟩
        refine (h4 i j hi hj).tree fun g hg => ?_
        have hgn : g ∈ Zx l.length ty.kinds.length F := mem_flatF.2 ⟨i, hi, j, hj, hg⟩
        exact k2 g (List.mem_append_right _ hgn) fun hgt => (List.nodup_append.1 hnd).2.2 g hgt g hgn rfl
      · exact .same fun ok' k1 => .row ⟨ty, xs, h1, h2, h3, .inr ⟨rfl, rfl, fun i j hi hj => (h4 i j hi hj).keep k1 fun _ _ => rfl⟩⟩
  · rename_i T T'
    cases h with | tree h =>
    cases h with | nil _ a =>
    obtain ⟨ty, hty⟩ := Option.isSome_iff_exists.1 (by simpa [s1Ok] using hs : (tab T).isSome = true)
    exact .same fun ok' _ => .tree (.inl T [] ty a 0 0 0 (fun _ _ => undef) hty (by simp) (by simp) (by simp) (by simp) (by simp))
  · rename_i T T' o l
    cases hb : Nat.beq T T' with
    | false => exact hsame
    | true =>
      obtain rfl := Nat.eq_of_beq_eq_true hb
      cases h with
      | tree h => cases h
      | row h =>
      exact ⟨[], [], List.nil_sublist _, List.nil_sublist _, fun ok' k1 k2 => .tree (h.tree k1 fun g hg => k2 g hg (by simp))⟩
  · exact hsame
theorem sub_notin {t1 n1 t2 n2 s2 : List Nat} (hnd : ((t1 ++ t2) ++ (n1 ++ n2)).Nodup) (hs : s2.Sublist t2) {g : Nat} (hg : g ∈ t1 ++ n1) : g ∉ s2 := by
  intro h2
  have h2 := hs.mem h2
  obtain ⟨h3, h4, h5⟩ := List.nodup_append.1 hnd
  rcases List.mem_append.1 hg with hg | hg
  · exact (List.nodup_append.1 h3).2.2 g hg g h2 rfl
  · exact h5 g (List.mem_append_right _ h2) g (List.mem_append_left _ hg) rfl
theorem sub_notin' {t1 n1 t2 n2 s1 : List Nat} (hnd : ((t1 ++ t2) ++ (n1 ++ n2)).Nodup) (hs : s1.Sublist t1) {g : Nat} (hg : g ∈ t2 ++ n2) : g ∉ s1 := by
  intro h2
  have h2 := hs.mem h2
  obtain ⟨h3, h4, h5⟩ := List.nodup_append.1 hnd
  rcases List.mem_append.1 hg with hg | hg
  · exact (List.nodup_append.1 h3).2.2 g h2 g hg rfl
  · exact h5 g (List.mem_append_left _ h2) g (List.mem_append_right _ hg) rfl
theorem Zcq {t1 n1 t2 n2 : List Nat} (hnd : ((t1 ++ t2) ++ (n1 ++ n2)).Nodup) : (t1 ++ n1).Nodup ∧ (t2 ++ n2).Nodup := by
  obtain ⟨h3, h4, h5⟩ := List.nodup_append.1 hnd
  obtain ⟨a1, a2, a3⟩ := List.nodup_append.1 h3
  obtain ⟨b1, b2, b3⟩ := List.nodup_append.1 h4
  exact ⟨List.nodup_append.2 ⟨a1, b1, fun x hx y hy => h5 x (List.mem_append_left _ hx) y (List.mem_append_left _ hy)⟩, List.nodup_append.2 ⟨a2, b2, fun x hx y hy => h5 x (List.mem_append_right _ hx) y (List.mem_append_right _ hy)⟩⟩
theorem append4_sub {t1 n1 t2 n2 : List Nat} {g : Nat} (h : g ∈ t1 ++ n1) : g ∈ (t1 ++ t2) ++ (n1 ++ n2) := by
  simp only [List.mem_append] at h ⊢; rcases h with h | h <;> simp [h]
theorem append4_sub' {t1 n1 t2 n2 : List Nat} {g : Nat} (h : g ∈ t2 ++ n2) : g ∈ (t1 ++ t2) ++ (n1 ++ n2) := by
  simp only [List.mem_append] at h ⊢; rcases h with h | h <;> simp [h]
def WeakL (R : (Nat → Prop) → V → Value → List Nat → List Nat → Prop) (ok : Nat → Prop) (ys : List V) (vs : List Value) (t n : List Nat) : Prop :=
  ∃ t' n', t'.Sublist t ∧ n'.Sublist n ∧ ∀ ok' : Nat → Prop, (∀ g, ok g → ok' g) → (∀ g ∈ t ++ n, g ∉ t' → ok' g) → RqL (R ok') ys vs t' n'
theorem WeakL.cons {R : (Nat → Prop) → V → Value → List Nat → List Nat → Prop} {ok : Nat → Prop} {y : V} {v : Value} {t1 n1 : List Nat} {ys : List V} {vs : List Value} {t2 n2 : List Nat}
    (h1 : Weak R ok y v t1 n1) (h2 : WeakL R ok ys vs t2 n2) (hnd : ((t1 ++ t2) ++ (n1 ++ n2)).Nodup) : WeakL R ok (y :: ys) (v :: vs) (t1 ++ t2) (n1 ++ n2) := by
  obtain ⟨s1, m1, a1, a2, a3⟩ := h1
  obtain ⟨s2, m2, b1, b2, b3⟩ := h2
  refine ⟨s1 ++ s2, m1 ++ m2, a1.append b1, a2.append b2, fun ok' k1 k2 => .cons (a3 ok' k1 fun g hg hn => ?_) (b3 ok' k1 fun g hg hn => ?_)⟩
  · exact k2 g (append4_sub hg) fun h => (List.mem_append.1 h).elim hn (sub_notin hnd b1 hg)
  · exact k2 g (append4_sub' hg) fun h => (List.mem_append.1 h).elim (sub_notin' hnd a1 hg) hn
theorem wkL_rq {w : World} {ok : Nat → Prop} {xs : List V} {vs : List Value} {t n : List Nat} (h : RqL (Rq1 tab w ok) xs vs t n) : ∀ {ss : List S1}, (ss.all (s1Ok tab)) = true → (t ++ n).Nodup → WeakL (Rq1 tab w) ok (wkL ss xs) vs t n := by
  have hsame : ∀ {xs : List V} {vs : List Value} {t n : List Nat}, RqL (Rq1 tab w ok) xs vs t n → WeakL (Rq1 tab w) ok xs vs t n := fun {xs vs t n} h => ⟨t, n, .refl _, .refl _, fun ok' k1 _ => h.mono fun _ _ _ _ h => h.keep k1⟩
  induction h with
  | nil => intro ss _ _; cases ss <;> exact hsame .nil
  | cons h1 h2 ih =>
    intro ss hss hnd
    cases ss with
    | nil => exact hsame (.cons h1 h2)
    | cons s ss =>
      simp only [List.all_cons, Bool.and_eq_true] at hss
      exact .cons (wk1_rq hss.1 h1 (Zcq hnd).1) (ih hss.2 (Zcq hnd).2) hnd
theorem wkV_rq {w : World} {ok : Nat → Prop} {ss : List S1} (hs : ss.all (s1Ok tab) = true) {x : V} {v : Value} {t n : List Nat} (h : Rq2 tab w ok x v t n) (hnd : (t ++ n).Nodup) : Weak (Rq2 tab w) ok (wkV ss x) v t n := by
  have hone : ∀ {x : V} {v : Value} {t n : List Nat}, (∀ cs, x ≠ .agg cs) → (∀ T cs, x ≠ .nb T cs) → (∀ T cs, x ≠ .rf T cs) → (∀ T o cs, x ≠ .ro T o cs) → Rq1 tab w ok x v t n → (t ++ n).Nodup → Weak (Rq2 tab w) ok (wkV ss x) v t n := by
    intro x v t n e1 e2 e3 e4 h hnd
    cases ss with
    | nil =>
      have : wkV [] x = x := by cases x <;> first | rfl | exact absurd rfl (e1 _) | exact absurd rfl (e2 _ _) | exact absurd rfl (e3 _ _) | exact absurd rfl (e4 _ _ _)
      rw [this]
      exact .same fun ok' k1 => .one (h.keep k1)
    | cons s ss =>
      have : wkV (s :: ss) x = wk1 s x := by cases x <;> first | rfl | exact absurd rfl (e1 _) | exact absurd rfl (e2 _ _) | exact absurd rfl (e3 _ _) | exact absurd rfl (e4 _ _ _)
      rw [this]
      simp only [List.all_cons, Bool.and_eq_true] at hs
      obtain ⟨t', n', a1, a2, a3⟩ := wk1_rq hs.1 h hnd
      exact ⟨t', n', a1, a2, fun ok' k1 k2 => .one (a3 ok' k1 k2)⟩
  have hagg : ∀ {cs : List V} {vs : List Value} {t n : List Nat}, RqL (Rq1 tab w ok) cs vs t n → (t ++ n).Nodup → Weak (Rq2 tab w) ok (.agg (wkL ss cs)) (.agg vs.toArray) t n := fun h hnd => by
    obtain ⟨t', n', a1, a2, a3⟩ := wkL_rq h hs hnd
    exact ⟨t', n', a1, a2, fun ok' k1 k2 => .agg (a3 ok' k1 k2)⟩
  have hbox : ∀ {g : Nat} {cs : List V} {c : Array Value} {t n : List Nat}, RqL (Rq1 tab w ok) cs c.toList t n → (g :: t ++ n).Nodup →
      ∃ t' n', (g :: t').Sublist (g :: t) ∧ n'.Sublist n ∧ ∀ ok' : Nat → Prop, (∀ g, ok g → ok' g) → (∀ x ∈ g :: t ++ n, x ∉ g :: t' → ok' x) → RqL (Rq1 tab w ok') (wkL ss cs) c.toList t' n' := by
    intro g cs c t n h hnd
    have hnd' : g ∉ t ++ n ∧ (t ++ n).Nodup := by simpa [List.nodup_cons] using hnd
    obtain ⟨t', n', a1, a2, a3⟩ := wkL_rq h hs hnd'.2
    refine ⟨t', n', a1.cons_cons g, a2, fun ok' k1 k2 => a3 ok' k1 fun x hx hn => k2 x (by simpa using Or.inr hx) ?_⟩
    intro hm
    rcases List.mem_cons.1 hm with rfl | hm
    · exact hnd'.1 hx
    · exact hn hm
  cases h with
  | agg h => exact hagg h hnd
  | nb h hg =>
    obtain ⟨t', n', a1, a2, a3⟩ := hbox h hnd
    exact ⟨_, n', a1, a2, fun ok' k1 k2 => .nb (a3 ok' k1 k2) hg⟩
  | rf h hg =>
    obtain ⟨t', n', a1, a2, a3⟩ := hbox h hnd
    exact ⟨_, n', a1, a2, fun ok' k1 k2 => .rf (a3 ok' k1 k2) hg⟩
  | ro h hg => exact .same fun ok' k1 => .ro (h.mono fun _ _ _ _ h => h.keep k1) hg
  | one h =>
    cases h with
    | row h => exact hone (by simp) (by simp) (by simp) (by simp) (.row h) hnd
    | deep h => exact hone (by simp) (by simp) (by simp) (by simp) (.deep h) hnd
    | tree h =>
      by_cases ha : ∃ cs, x = .agg cs
      · obtain ⟨cs, rfl⟩ := ha
        cases h with | agg _ vals hl h => exact hagg (.of_trees hl h) hnd
      · exact hone (fun cs e => ha ⟨cs, e⟩) (fun T cs e => by subst e; cases h) (fun T cs e => by subst e; cases h) (fun T o cs e => by subst e; cases h) (.tree h) hnd
theorem wkVs_rq {w : World} {ok : Nat → Prop} {xs : List V} {vs : List Value} {t n : List Nat} (h : RqL (Rq2 tab w ok) xs vs t n) : ∀ {ss : List (List S1)}, (ss.all fun s => s.all (s1Ok tab)) = true → (t ++ n).Nodup → WeakL (Rq2 tab w) ok (wkVs ss xs) vs t n := by
  have hsame : ∀ {xs : List V} {vs : List Value} {t n : List Nat}, RqL (Rq2 tab w ok) xs vs t n → WeakL (Rq2 tab w) ok xs vs t n := fun {xs vs t n} h => ⟨t, n, .refl _, .refl _, fun ok' k1 _ => h.mono fun _ _ _ _ h => h.keep k1⟩
  induction h with
  | nil => intro ss _ _; cases ss <;> exact hsame .nil
  | cons h1 h2 ih =>
    intro ss hss hnd
    cases ss with
    | nil => exact hsame (.cons h1 h2)
    | cons s ss =>
      simp only [List.all_cons, Bool.and_eq_true] at hss
      exact .cons (wkV_rq hss.1 h1 (Zcq hnd).1) (ih hss.2 (Zcq hnd).2) hnd
theorem wkR_rq {w : World} {ok : Nat → Prop} {ss : List (List S1)} (hs : (ss.all fun s => s.all (s1Ok tab)) = true) {x : V} {v : Value} {t n : List Nat} (h : Rq3 tab w ok x v t n) (hnd : (t ++ n).Nodup) : Weak (Rq3 tab w) ok (wkR ss x) v t n := by
  cases h with
  | tup h =>
    obtain ⟨t', n', a1, a2, a3⟩ := wkVs_rq h hs hnd
    exact ⟨t', n', a1, a2, fun ok' k1 k2 => .tup (a3 ok' k1 k2)⟩
  | one h =>
    have hnt : ∀ vs, x ≠ .tup vs := by
      intro vs e
      subst e
      cases h with | one h => cases h with | tree h => cases h
    cases ss with
    | nil =>
      have : wkR [] x = x := by cases x <;> first | rfl | exact absurd rfl (hnt _)
      rw [this]
      exact .same fun ok' k1 => .one (h.keep k1)
    | cons s ss =>
      have : wkR (s :: ss) x = wkV s x := by cases x <;> first | rfl | exact absurd rfl (hnt _)
      rw [this]
      simp only [List.all_cons, Bool.and_eq_true] at hs
      obtain ⟨t', n', a1, a2, a3⟩ := wkV_rq hs.1 h hnd
      exact ⟨t', n', a1, a2, fun ok' k1 k2 => .one (a3 ok' k1 k2)⟩
theorem wkO_rq {w : World} {ok : Nat → Prop} {ss : List S1} (hs : ss.all (s1Ok tab) = true) {x : V} {v : Value} {t n : List Nat} (h : Rq2 tab w ok x v t n) (hnd : (t ++ n).Nodup) : Weak (Rq2 tab w) ok (wkO ss x) v t n := by
  have hV := wkV_rq hs h hnd
  have hS : Weak (Rq2 tab w) ok x v t n := .same fun ok' k1 => h.keep k1
  cases x <;> first | exact hV | exact hS
theorem outOk_wk {p y : V} {s : List S1} (hp : outOk p y) : outOk p (wkO s y) := by
  cases y <;> first | exact hp | (cases p <;> first | exact hp | exact hp.elim)
def WeakO (R : (Nat → Prop) → V → Value → List Nat → List Nat → Prop) (ok : Nat → Prop) (ps : List (V × Value)) (ys : List V) (t n : List Nat) : Prop :=
  ∃ t' n', t'.Sublist t ∧ n'.Sublist n ∧ ∀ ok' : Nat → Prop, (∀ g, ok g → ok' g) → (∀ g ∈ t ++ n, g ∉ t' → ok' g) → OutL (R ok') ps ys t' n'
theorem wkOs_rq {w : World} {ok : Nat → Prop} {ps : List (V × Value)} {xs : List V} {t n : List Nat} (h : OutL (Rq2 tab w ok) ps xs t n) : ∀ {ss : List (List S1)}, (ss.all fun s => s.all (s1Ok tab)) = true → (t ++ n).Nodup → WeakO (Rq2 tab w) ok ps (wkOs ss xs) t n := by
  have hsame : ∀ {ps : List (V × Value)} {xs : List V} {t n : List Nat}, OutL (Rq2 tab w ok) ps xs t n → WeakO (Rq2 tab w) ok ps xs t n := fun {ps xs t n} h => ⟨t, n, .refl _, .refl _, fun ok' k1 _ => h.mono fun _ _ _ _ _ h => h.keep k1⟩
  induction h with
  | nil => intro ss _ _; cases ss <;> exact hsame .nil
  | cons h0 h1 h2 ih =>
    intro ss hss hnd
    cases ss with
    | nil => exact hsame (.cons h0 h1 h2)
    | cons s ss =>
      simp only [List.all_cons, Bool.and_eq_true] at hss
      obtain ⟨s1, m1, a1, a2, a3⟩ := wkO_rq hss.1 h1 (Zcq hnd).1
      obtain ⟨s2, m2, b1, b2, b3⟩ := ih hss.2 (Zcq hnd).2
      refine ⟨s1 ++ s2, m1 ++ m2, a1.append b1, a2.append b2, fun ok' k1 k2 => .cons (outOk_wk h0) (a3 ok' k1 fun g hg hn => ?_) (b3 ok' k1 fun g hg hn => ?_)⟩
      · exact k2 g (append4_sub hg) fun h => (List.mem_append.1 h).elim hn (sub_notin hnd b1 hg)
      · exact k2 g (append4_sub' hg) fun h => (List.mem_append.1 h).elim (sub_notin' hnd a1 hg) hn
theorem SumOk.weaken {f : FuncId} {args : List V} {r : V × List V} (h : SumOk P tab f args r) {ss os : List (List S1)} (hs : (ss.all fun s => s.all (s1Ok tab)) = true) (ho : (os.all fun s => s.all (s1Ok tab)) = true) :
    SumOk P tab f args (wkF ss os r) := by
  intro w ok vals t n hr hnd hok hlt
  refine Calls.mono (h w ok vals t n hr hnd hok hlt) ?_
  rintro e w' ⟨val, rfl, rt, rn, ot, on, r1, r2, h1, h2, h3, h4, h5⟩
  refine ⟨val, rfl, ?_⟩
  obtain ⟨ho1, hr1⟩ := Zcq h1
  obtain ⟨rt', rn', a1, a2, a3⟩ := wkR_rq hs r1 hr1
  obtain ⟨ot', on', b1, b2, b3⟩ := wkOs_rq r2 ho ho1
  have hT : (ot' ++ rt').Sublist (ot ++ rt) := b1.append a1
  have hN : (on' ++ rn').Sublist (on ++ rn) := b2.append a2
  have base : ∀ g, g ∈ (ot ++ rt) ++ (on ++ rn) → (ok g ∨ g ∈ t ++ n ∨ w.heap.size ≤ g) ∧ g < w'.heap.size := fun g hg => by
    refine ⟨?_, h4 g hg⟩
    rcases List.mem_append.1 hg with hg | hg
    · rcases h2 g hg with h | h
      · exact .inr (.inl (List.mem_append_left _ h))
      · exact .inr (.inr h)
    · exact .inr (h3 g hg)
  have k1 : ∀ g, ((ok g ∨ g ∈ t ++ n ∨ w.heap.size ≤ g) ∧ g < w'.heap.size ∧ g ∉ ot ++ rt) → (ok g ∨ g ∈ t ++ n ∨ w.heap.size ≤ g) ∧ g < w'.heap.size ∧ g ∉ ot' ++ rt' := fun g hg => ⟨hg.1, hg.2.1, fun hh => hg.2.2 (hT.mem hh)⟩
  refine ⟨rt', rn', ot', on', a3 _ k1 fun g hg hn => ?_, b3 _ k1 fun g hg hn => ?_, (hT.append hN).nodup h1, fun g hg => h2 g (hT.mem hg), fun g hg => h3 g (hN.mem hg), fun g hg => h4 g ((hT.append hN).mem hg), h5⟩
  · have hb := base g (append4_sub' hg)
    exact ⟨hb.1, hb.2, fun hh => (List.mem_append.1 hh).elim (sub_notin' h1 b1 hg) hn⟩
  · have hb := base g (append4_sub hg)
    exact ⟨hb.1, hb.2, fun hh => (List.mem_append.1 hh).elim hn (sub_notin h1 a1 hg)⟩
end
end Go.Eng
namespace Go.Eng
def gi (x : V) (j : Nat) : Int := (x.cell j).I
def gb (x : V) (j : Nat) : Bool := (x.cell j).B
def gl (x : V) (j : Nat) : List V := (x.cell j).L
def gs (x : V) (j : Nat) : List V := (x.cell j).S
def rd (l : List V) (i : Nat) : V := l.getD i .dead
def bAnd (k : IntKind) (a b : Int) : Int := k.wrap ((BitVec.ofInt k.bits a &&& BitVec.ofInt k.bits b).toNat : Int)
def bXor (k : IntKind) (a b : Int) : Int := k.wrap ((BitVec.ofInt k.bits a ^^^ BitVec.ofInt k.bits b).toNat : Int)
def sShr (k : IntKind) (a b : Int) : Int := a.fdiv (2 ^ (min b.toNat k.bits))
def V.off : V → Nat | .sl _ _ o _ => o | _ => 0
def V.slen : V → Nat | .sl _ _ _ (some n) => n | _ => 0
def V.idx : V → Nat | .rp _ i _ => i | _ => 0
def V.caps : V → List V | .fn _ cs => cs | _ => []
def V.toInl : V → V
  | .rr T _ l => .inl T l
  | .dr T l => .inl T l
  | v => v
def V.unbox : V → V
  | .rf _ cs => .agg (cs.map V.toInl)
  | .ro _ _ cs => .agg (cs.map V.toInl)
  | .nb _ cs => .agg (cs.map V.toInl)
  | .ep cs _ => .agg cs
  | v => v
def S1.ok : S1 → V → Bool
  | .int k, .int k' _ => decide (k' = k)
  | .bool, .bool _ => true
  | .str, .str _ => true
  | .inl T, .inl T' _ => Nat.beq T T'
  | .rr T o, .rr T' o' _ => Nat.beq T T' && (o == o')
  | .nil T, .nil T' => Nat.beq T T'
  | .sl id T, .sl id' T' 0 none => Nat.beq id id' && Nat.beq T T'
  | .slo id T, .sl id' T' _ none => Nat.beq id id' && Nat.beq T T'
  | .sll id T, .sl id' T' _ (some _) => Nat.beq id id' && Nat.beq T T'
  | .bp id off, .bp id' off' => Nat.beq id id' && Nat.beq off off'
  | .rp id off, .rp id' _ off' => Nat.beq id id' && Nat.beq off off'
  | .dead, .dead => true
  | .dr T, .dr T' _ => Nat.beq T T'
  | _, _ => false
def S1.mk : S1 → V → V
  | .int k, x => .int k x.I
  | .bool, x => .bool x.B
  | .str, x => .str x.S
  | .inl T, x => .inl T x.L
  | .rr T o, x => .rr T o x.L
  | .nil T, _ => .nil T
  | .sl id T, _ => .sl id T 0 none
  | .slo id T, x => .sl id T x.off none
  | .sll id T, x => .sl id T x.off (some x.slen)
  | .bp id off, _ => .bp id off
  | .rp id off, x => .rp id x.idx off
  | .dead, _ => .dead
  | .dr T, x => .dr T x.L
theorem beqN {a b : Nat} (h : Nat.beq a b = true) : a = b := Nat.eq_of_beq_eq_true h
theorem S1.mk_ok {s : S1} {x : V} (h : s.ok x = true) : s.mk x = x := by
  unfold S1.ok at h
  split at h <;> (try simp only [Bool.and_eq_true, decide_eq_true_eq, beq_iff_eq] at h) <;> (try simp only [S1.mk])
  all_goals first
    | rfl
    | (subst h; rfl)
    | (obtain rfl := beqN h; rfl)
    | (obtain ⟨h1, h2⟩ := h; obtain rfl := beqN h1; obtain rfl := beqN h2; rfl)
    | (obtain ⟨h1, h2⟩ := h; obtain rfl := beqN h1; subst h2; rfl)
    | (cases h)
def okL : List S1 → List V → Bool
  | [], [] => true
  | s :: ss, v :: vs => s.ok v && okL ss vs
  | _, _ => false
def mkC : List S1 → V → Nat → List V
  | [], _, _ => []
  | s :: ss, x, j => s.mk (x.cell j) :: mkC ss x (j + 1)
theorem mkC_ok : ∀ {ss : List S1} {vs pre : List V}, okL ss vs = true → mkC ss (.agg (pre ++ vs)) pre.length = vs
  | [], [], _, _ => rfl
  | s :: ss, v :: vs, pre, h => by
    simp only [okL, Bool.and_eq_true] at h
    have ih := mkC_ok (ss := ss) (vs := vs) (pre := pre ++ [v]) h.2
    simp only [List.append_assoc, List.singleton_append, List.length_append, List.length_cons, List.length_nil, Nat.zero_add] at ih
    simp only [mkC]
    rw [ih]
    congr 1
    have : V.cell (.agg (pre ++ v :: vs)) pre.length = v := by simp [V.cell, V.cells]
    rw [this]; exact S1.mk_ok h.1
  | [], _ :: _, _, h => by cases h
  | _ :: _, [], _, h => by cases h
theorem S1.mk_inl {s : S1} {x : V} (h : s.ok x = true) : s.mk x.toInl = x := by
  have h0 := S1.mk_ok h
  cases x <;> first
    | exact h0
    | (cases s <;> first | (cases h; done) | exact h0)
theorem cell_map {f : V → V} (hf : f .dead = .dead) (vs : List V) (j : Nat) : V.cell (.agg (vs.map f)) j = f (V.cell (.agg vs) j) := by
  simp only [V.cell, V.cells]; exact getD_map hf vs j
theorem mkC_inl : ∀ {ss : List S1} {vs pre : List V}, okL ss vs = true → mkC ss (.agg ((pre ++ vs).map V.toInl)) pre.length = vs
  | [], [], _, _ => rfl
  | s :: ss, v :: vs, pre, h => by
    simp only [okL, Bool.and_eq_true] at h
    have ih := mkC_inl (ss := ss) (vs := vs) (pre := pre ++ [v]) h.2
    simp only [List.append_assoc, List.singleton_append, List.length_append, List.length_cons, List.length_nil, Nat.zero_add] at ih
    simp only [mkC]
    rw [ih, cell_map rfl]
    congr 1
    have : V.cell (.agg (pre ++ v :: vs)) pre.length = v := by simp [V.cell, V.cells]
    rw [this]; exact S1.mk_inl h.1
  | [], _ :: _, _, h => by cases h
  | _ :: _, [], _, h => by cases h
theorem mkC_inl0 {ss : List S1} {vs : List V} (h : okL ss vs = true) : mkC ss (.agg (vs.map V.toInl)) 0 = vs := mkC_inl (pre := []) h
theorem mkC_ok0 {ss : List S1} {vs : List V} (h : okL ss vs = true) : mkC ss (.agg vs) 0 = vs := mkC_ok (pre := []) h
inductive S2 where
  | one (s : S1) | agg (l : List S1) | rf (T : TypeId) (l : List S1) | ro (T : TypeId) (off : Nat) (l : List S1) | ep (l : List S1) (off : Nat) | fn (f : FuncId) (l : List (List S1)) | tup (l : List S1)
  deriving Inhabited
def okCaps : List (List S1) → List V → Bool
  | [], [] => true
  | s :: ss, .ep cs 0 :: vs => okL s cs && okCaps ss vs
  | _, _ => false
def mkCaps : List (List S1) → List V → Nat → List V
  | [], _, _ => []
  | s :: ss, vs, j => .ep (mkC s (rd vs j).unbox 0) 0 :: mkCaps ss vs (j + 1)
theorem mkCaps_ok : ∀ {ss : List (List S1)} {vs pre : List V}, okCaps ss vs = true → mkCaps ss (pre ++ vs) pre.length = vs
  | [], [], _, _ => rfl
  | s :: ss, v :: vs, pre, h => by
    unfold okCaps at h
    split at h
    · rename_i he; cases he
    · rename_i s' ss' cs vs' h1 h2
      cases h1; cases h2
      simp only [Bool.and_eq_true] at h
      have ih := mkCaps_ok (ss := ss) (vs := vs) (pre := pre ++ [.ep cs 0]) h.2
      simp only [List.append_assoc, List.singleton_append, List.length_append, List.length_cons, List.length_nil, Nat.zero_add] at ih
      simp only [mkCaps]
      rw [ih]
      congr 1
      have : rd (pre ++ V.ep cs 0 :: vs) pre.length = .ep cs 0 := by simp [rd]
      rw [this]
      simp only [V.unbox]
      rw [mkC_ok0 h.1]
    · cases h
  | [], _ :: _, _, h => by cases h
  | _ :: _, [], _, h => by cases h
def S2.ok : S2 → V → Bool
  | .one s, x => s.ok x
  | .agg l, .agg cs => okL l cs
  | .rf T l, .rf T' cs => Nat.beq T T' && okL l cs
  | .ro T o l, .ro T' o' cs => Nat.beq T T' && (Nat.beq o o' && okL l cs)
  | .ep l off, .ep cs off' => Nat.beq off off' && okL l cs
  | .fn f l, .fn f' cs => Nat.beq f f' && okCaps l cs
  | .tup l, .tup cs => okL l cs
  | _, _ => false
def S2.mk : S2 → V → V
  | .one s, x => s.mk x
  | .agg l, x => .agg (mkC l x 0)
  | .rf T l, x => .rf T (mkC l x.unbox 0)
  | .ro T o l, x => .ro T o (mkC l x.unbox 0)
  | .ep l off, x => .ep (mkC l x.unbox 0) off
  | .fn f l, x => .fn f (mkCaps l x.caps 0)
  | .tup l, x => .tup (mkC l (match x with | .tup cs => .agg cs | v => v) 0)
theorem S2.mk_ok {s : S2} {x : V} (h : s.ok x = true) : s.mk x = x := by
  unfold S2.ok at h
  split at h
  · exact S1.mk_ok h
  · simp only [S2.mk]; rw [mkC_ok0 h]
  · simp only [Bool.and_eq_true] at h
    obtain rfl := beqN h.1
    simp only [S2.mk, V.unbox]; rw [mkC_inl0 h.2]
  · simp only [Bool.and_eq_true] at h
    obtain rfl := beqN h.1
    obtain rfl := beqN h.2.1
    simp only [S2.mk, V.unbox]; rw [mkC_inl0 h.2.2]
  · simp only [Bool.and_eq_true] at h
    obtain rfl := beqN h.1
    simp only [S2.mk, V.unbox]; rw [mkC_ok0 h.2]
  · simp only [Bool.and_eq_true] at h
    obtain rfl := beqN h.1
    have e := mkCaps_ok (pre := []) h.2
    simp only [List.nil_append, List.length_nil] at e
    simp only [S2.mk, V.caps]; rw [e]
  · simp only [S2.mk]; rw [mkC_ok0 h]
  · cases h
def Za5 : List S2 → List V → Bool
  | [], [] => true
  | s :: ss, v :: vs => s.ok v && Za5 ss vs
  | _, _ => false
def argsMk : List S2 → List V → Nat → List V
  | [], _, _ => []
  | s :: ss, vs, j => s.mk (rd vs j) :: argsMk ss vs (j + 1)
theorem ZcD : ∀ {ss : List S2} {vs pre : List V}, Za5 ss vs = true → argsMk ss (pre ++ vs) pre.length = vs
  | [], [], _, _ => rfl
  | s :: ss, v :: vs, pre, h => by
    simp only [Za5, Bool.and_eq_true] at h
    have ih := ZcD (ss := ss) (vs := vs) (pre := pre ++ [v]) h.2
    simp only [List.append_assoc, List.singleton_append, List.length_append, List.length_cons, List.length_nil, Nat.zero_add] at ih
    simp only [argsMk]
    rw [ih]
    congr 1
    have : rd (pre ++ v :: vs) pre.length = v := by simp [rd]
    rw [this]; exact S2.mk_ok h.1
  | [], _ :: _, _, h => by cases h
  | _ :: _, [], _, h => by cases h
inductive SB where
  | box (T : TypeId) (l : List S1) | row (T : TypeId) (own : Bool) | gone | drow (T : TypeId)
  deriving Inhabited
structure SS where
  sl : List (Nat × S2)
  hp : List SB
  nid : Nat
  lent : List Nat
def sv (s : St) (j : Nat) : V := (s.sl.getD j (0, .dead)).2
def bv (s : St) (j : Nat) : Option Blk := (s.hp.getD j (0, none)).2
def bcOf : Option Blk → V
  | some (.box _ cs) => .agg cs
  | _ => .dead
def brOf : Option Blk → List V
  | some (.row _ _ els) => els
  | some (.drow _ els) => els
  | _ => []
def bc (s : St) (j : Nat) : V := bcOf (bv s j)
def br (s : St) (j : Nat) : List V := brOf (bv s j)
def okSl : List (Nat × S2) → List (Nat × V) → Bool
  | [], [] => true
  | p :: ps, q :: qs => Nat.beq p.1 q.1 && (p.2.ok q.2 && okSl ps qs)
  | _, _ => false
def SB.ok : SB → Option Blk → Bool
  | .box T l, some (.box T' cs) => Nat.beq T T' && okL l cs
  | .row T o, some (.row T' o' _) => Nat.beq T T' && (o == o')
  | .gone, none => true
  | .drow T, some (.drow T' _) => Nat.beq T T'
  | _, _ => false
def SB.mk : SB → Option Blk → Option Blk
  | .box T l, x => some (.box T (mkC l (bcOf x) 0))
  | .row T o, x => some (.row T o (brOf x))
  | .gone, _ => none
  | .drow T, x => some (.drow T (brOf x))
theorem SB.mk_ok {s : SB} {x : Option Blk} (h : s.ok x = true) : s.mk x = x := by
  unfold SB.ok at h
  split at h
  · simp only [Bool.and_eq_true] at h
    obtain rfl := beqN h.1
    simp only [SB.mk, bcOf]; rw [mkC_ok0 h.2]
  · simp only [Bool.and_eq_true, beq_iff_eq] at h
    obtain ⟨h1, rfl⟩ := h
    obtain rfl := beqN h1
    rfl
  · rfl
  · obtain rfl := beqN h
    rfl
  · cases h
def okHp : Nat → List SB → List (Nat × Option Blk) → Bool
  | _, [], [] => true
  | k, b :: bs, q :: qs => Nat.beq k q.1 && (b.ok q.2 && okHp (k + 1) bs qs)
  | _, _, _ => false
def mkSl : List (Nat × S2) → St → Nat → List (Nat × V)
  | [], _, _ => []
  | p :: ps, s, j => (p.1, p.2.mk (sv s j)) :: mkSl ps s (j + 1)
def mkHp : List SB → St → Nat → List (Nat × Option Blk)
  | [], _, _ => []
  | b :: bs, s, j => (j, b.mk (bv s j)) :: mkHp bs s (j + 1)
def eqNs : List Nat → List Nat → Bool
  | [], [] => true
  | a :: x, b :: y => Nat.beq a b && eqNs x y
  | _, _ => false
theorem eqNs_spec : ∀ {x y : List Nat}, eqNs x y = true → x = y
  | [], [], _ => rfl
  | a :: x, b :: y, h => by
    simp only [eqNs, Bool.and_eq_true] at h
    rw [beqN h.1, eqNs_spec h.2]
  | [], _ :: _, h => by cases h
  | _ :: _, [], h => by cases h
def SS.ok (ss : SS) (s : St) : Bool := okSl ss.sl s.sl && (okHp 0 ss.hp s.hp && (Nat.beq ss.nid s.nid && eqNs ss.lent s.lent))
def SS.mk' (ss : SS) (s : St) : St := ⟨mkSl ss.sl s 0, mkHp ss.hp s 0, ss.nid, ss.lent⟩
theorem mkSl_ok {s : St} : ∀ {ps : List (Nat × S2)} {qs pre : List (Nat × V)}, s.sl = pre ++ qs → okSl ps qs = true → mkSl ps s pre.length = qs
  | [], [], _, _, _ => rfl
  | p :: ps, q :: qs, pre, e, h => by
    simp only [okSl, Bool.and_eq_true] at h
    have ih := mkSl_ok (s := s) (ps := ps) (qs := qs) (pre := pre ++ [q]) (by simpa using e) h.2.2
    simp only [List.length_append, List.length_cons, List.length_nil, Nat.zero_add] at ih
    simp only [mkSl]
    rw [ih]
    have : sv s pre.length = q.2 := by simp [sv, e]
    rw [this, S2.mk_ok h.2.1, beqN h.1]
  | [], _ :: _, _, _, h => by cases h
  | _ :: _, [], _, _, h => by cases h
theorem mkHp_ok {s : St} : ∀ {bs : List SB} {qs pre : List (Nat × Option Blk)}, s.hp = pre ++ qs → okHp pre.length bs qs = true → mkHp bs s pre.length = qs
  | [], [], _, _, _ => rfl
  | b :: bs, q :: qs, pre, e, h => by
    simp only [okHp, Bool.and_eq_true] at h
    have ih := mkHp_ok (s := s) (bs := bs) (qs := qs) (pre := pre ++ [q]) (by simpa using e) (by simpa using h.2.2)
    simp only [List.length_append, List.length_cons, List.length_nil, Nat.zero_add] at ih
    simp only [mkHp]
    rw [ih]
    have : bv s pre.length = q.2 := by simp [bv, e]
    rw [this, SB.mk_ok h.2.1, beqN h.1]
  | [], _ :: _, _, _, h => by cases h
  | _ :: _, [], _, _, h => by cases h
theorem SS.mk_ok {ss : SS} {s : St} (h : ss.ok s = true) : ss.mk' s = s := by
  simp only [SS.ok, Bool.and_eq_true] at h
  obtain ⟨h1, h2, h3, h4⟩ := h
  simp only [SS.mk']
  have e1 := mkSl_ok (s := s) (pre := []) rfl h1
  have e2 := mkHp_ok (s := s) (pre := []) rfl h2
  simp only [List.length_nil] at e1 e2
  rw [e1, e2, beqN h3, eqNs_spec h4]
def rcall {α X : Type} [Inhabited α] (F : Option α) (g : α → Option X) : Option X := bif F.isSome then g (F.getD default) else none
def rlet {α β : Type} (x : α) (g : α → β) : β := g x
def Agr {α X Y : Type} (w : X → Y) (sh : α → Y) (F : Option α) (O : Option X) : Prop := ∀ r, F = some r → O.map w = some (sh r)
def Tot {α X Y : Type} (w : X → Y) (sh : α → Y) (F : α) (O : Option X) : Prop := O.map w = some (sh F)
section
variable {α β X Y : Type} {w : X → Y} {sh : α → Y}
theorem agr_none {O : Option X} : Agr w sh (none : Option α) O := fun _ h => by cases h
theorem agr_leaf {r : α} {x : X} (h : w x = sh r) : Agr w sh (some r) (some x) := fun _ e => by cases e; simp [h]
theorem agr_if {c : Bool} {a b : Option α} {A B : Option X} (h1 : Agr w sh a A) (h2 : Agr w sh b B) : Agr w sh (bif c then a else b) (bif c then A else B) := by
  cases c
  · exact h2
  · exact h1
theorem agr_call [Inhabited β] {F : Option β} {f : β → Option α} {g : β → Option X} (h : ∀ x, Agr w sh (f x) (g x)) : Agr w sh (F.bind f) (rcall F g) := by
  intro r e
  cases F with
  | none => cases e
  | some x => exact h x r e
theorem tot_leaf {r : α} {x : X} (h : w x = sh r) : Tot w sh r (some x) := by simp [Tot, h]
theorem tot_if {c : Bool} {a b : α} {A B : Option X} (h1 : Tot w sh a A) (h2 : Tot w sh b B) : Tot w sh (bif c then a else b) (bif c then A else B) := by
  cases c
  · exact h2
  · exact h1
end
def brs (x : Nat) : Nat → List (Ex × St) → Out
  | _, [] => .tst false (.leaf .ret default)
  | _, [p] => .leaf p.1 p.2
  | i, p :: ps => .br (Nat.beq x i) (.leaf p.1 p.2) (brs x (i + 1) ps)
def pick (x : Nat) : Nat → List (Ex × St) → Ex × St
  | _, [] => (.ret, default)
  | _, [p] => p
  | i, p :: ps => bif Nat.beq x i then p else pick x (i + 1) ps
theorem brs_get {x : Nat} : ∀ {i : Nat} {ps : List (Ex × St)} {r : Ex × St}, (brs x i ps).get = some r → pick x i ps = r
  | _, [], _, h => by cases h
  | _, [p], _, h => by simpa [brs, Out.get, pick] using h
  | i, p :: q :: ps, r, h => by
    simp only [brs, Out.get, pick] at h ⊢
    cases hb : Nat.beq x i with
    | true => rw [hb] at h; simpa using h
    | false => rw [hb] at h; exact brs_get (i := i + 1) (ps := q :: ps) h
section
variable {P : Program}
theorem Base.sum {cfg : Cfg} (hB : Base P cfg.tab) (hS : ZaV P cfg.tab cfg.sums) {f : FuncId} {fn : Func} (hf : P.funcs[f]? = some fn) (hok : fnOk fn = true) {L : Loops} (hL : ZQ cfg L (Z6 fn)) (A : List S2) (hlen : Nat.ble A.length fn.ntmps = true)
    {α : Type} [Inhabited α] {F : List V → Option α} {shr : α → V × List V} (ws os : List (List S1)) (hw : ((ws.all fun s => s.all (s1Ok cfg.tab)) && (os.all fun s => s.all (s1Ok cfg.tab))) = true)
    (E : ∀ args, argsMk A args 0 = args → Agr (wkF ws os) shr (F args) (evalFn cfg L fn args)) :
    ∀ args r, (bif Za5 A args then some ((F args).isSome, shr ((F args).getD default)) else none) = some (true, r) → SumOk P cfg.tab f args r := by
  intro args r h
  cases hs : Za5 A args with
  | false => rw [hs] at h; cases h
  | true =>
    rw [hs] at h
    simp only [cond_true, Option.some.injEq, Prod.mk.injEq] at h
    obtain ⟨h1, h2⟩ := h
    obtain ⟨x, hx⟩ := Option.isSome_iff_exists.1 h1
    rw [hx] at h2
    have := E args (ZcD (pre := []) hs) x hx
    obtain ⟨r0, h3, h4⟩ := Option.map_eq_some_iff.1 this
    simp only [Bool.and_eq_true] at hw
    have hl : args.length = A.length := by
      clear h1 h2 hx this h3 h4 E hf hok hlen
      induction A generalizing args with
      | nil => cases args with
        | nil => rfl
        | cons _ _ => cases hs
      | cons a A ih =>
        cases args with
        | nil => cases hs
        | cons v vs =>
          simp only [Za5, Bool.and_eq_true] at hs
          simp [ih vs hs.2]
    have := (hB.fn hS hf hok hL (args := args) (by rw [hl]; exact hlen) h3).weaken hw.1 hw.2
    rw [h4] at this
    rw [← h2]; exact this
theorem Base.sumT {cfg : Cfg} (hB : Base P cfg.tab) (hS : ZaV P cfg.tab cfg.sums) {f : FuncId} {fn : Func} (hf : P.funcs[f]? = some fn) (hok : fnOk fn = true) {L : Loops} (hL : ZQ cfg L (Z6 fn)) (A : List S2) (hlen : Nat.ble A.length fn.ntmps = true)
    {α : Type} {F : List V → α} {shr : α → V × List V} (ws os : List (List S1)) (hw : ((ws.all fun s => s.all (s1Ok cfg.tab)) && (os.all fun s => s.all (s1Ok cfg.tab))) = true)
    (E : ∀ args, argsMk A args 0 = args → Tot (wkF ws os) shr (F args) (evalFn cfg L fn args)) :
    ∀ args r, (bif Za5 A args then some (true, shr (F args)) else none) = some (true, r) → SumOk P cfg.tab f args r := by
  intro args r h
  cases hs : Za5 A args with
  | false => rw [hs] at h; cases h
  | true =>
    rw [hs] at h
    simp only [cond_true, Option.some.injEq, Prod.mk.injEq, true_and] at h
    obtain ⟨r0, h3, h4⟩ := Option.map_eq_some_iff.1 (E args (ZcD (pre := []) hs))
    simp only [Bool.and_eq_true] at hw
    have hl : args.length = A.length := by
      clear h h3 h4 E hf hok hlen
      induction A generalizing args with
      | nil => cases args with
        | nil => rfl
        | cons _ _ => cases hs
      | cons a A ih =>
        cases args with
        | nil => cases hs
        | cons v vs =>
          simp only [Za5, Bool.and_eq_true] at hs
          simp [ih vs hs.2]
    have := (hB.fn hS hf hok hL (args := args) (by rw [hl]; exact hlen) h3).weaken hw.1 hw.2
    rw [h4] at this
    rw [← h]; exact this
end
end Go.Eng
namespace Go.Eng
def mxI (a b : Int) : Int := if a < b then b else a
structure LE where
  key : Nat
  ss : SS
  o : St → Out
def runL : List LE → Nat → St → Option Out
  | [], _, _ => none
  | e :: r, key, st => bif Nat.beq key e.key && e.ss.ok st then some (e.o st) else runL r key st
def Good (cfg : Cfg) (L : Loops) (a : Code) (e : LE) : Prop := ∀ st, e.ss.mk' st = st → ∀ r, (e.o st).get = some r → ∃ n, Z9 cfg L a n st = some r
theorem good_of {cfg : Cfg} {L : Loops} {body : Code} {key : Nat} {ss : SS} {α : Type} [Inhabited α] {F : St → Option α} (fuel : St → Nat) {ix : α → Nat} {ps : α → List (Ex × St)}
    (H : ∀ st, ss.mk' st = st → Agr id (fun r => pick (ix r) 0 (ps r)) (F st) (Z9 cfg L body (fuel st) st)) :
    Good cfg L body ⟨key, ss, fun s => Out.tst (F s).isSome (brs (ix ((F s).getD default)) 0 (ps ((F s).getD default)))⟩ := by
  intro s hs r h2
  cases hF : F s with
  | none =>
    simp only [hF] at h2
    cases h2
  | some x =>
    simp only [hF] at h2
    have h2 : (brs (ix x) 0 (ps x)).get = some r := h2
    have := H s hs x hF
    rw [Option.map_id, id] at this
    have e := brs_get h2
    exact ⟨fuel s, by rw [this]; dsimp only; rw [e]⟩
def uniqAt (bodies : List Code) (key i : Nat) : Bool := (List.range bodies.length).all fun j => Nat.beq j i || !(Nat.beq (ZaZ (bodies.getD j .skip)) key)
theorem uniq_spec {bodies : List Code} {key i : Nat} (h : uniqAt bodies key i = true) {Q : Code → Prop} (hq : Q (bodies.getD i .skip)) : ∀ a ∈ bodies, ZaZ a = key → Q a := by
  intro a ha hk
  obtain ⟨j, hj, rfl⟩ := List.getElem_of_mem ha
  unfold uniqAt at h
  rw [List.all_eq_true] at h
  have := h j (List.mem_range.2 hj)
  have e : bodies.getD j .skip = bodies[j] := by simp [List.getD, hj]
  rw [e, hk] at this
  simp only [Bool.or_eq_true, Bool.not_eq_true'] at this
  rcases this with h1 | h1
  · obtain rfl := beqN h1
    rw [e] at hq; exact hq
  · rw [show Nat.beq key key = true from Nat.beq_refl key] at h1; cases h1
inductive GoodAll (cfg : Cfg) (L : Loops) (bodies : List Code) : List LE → Prop where
  | nil : GoodAll cfg L bodies []
  | cons {e : LE} {r : List LE} (i : Nat) : uniqAt bodies e.key i = true → Good cfg L (bodies.getD i .skip) e → GoodAll cfg L bodies r → GoodAll cfg L bodies (e :: r)
theorem GoodAll.ok {cfg : Cfg} {L : Loops} {fn : Func} {l : List LE} (h : GoodAll cfg L (Zb8 (Z6 fn)) l) (hr : L.run = runL l) : ZQ cfg L (Z6 fn) := by
  refine ZcJ _ fun a ha s o r h1 h2 => ?_
  rw [hr] at h1
  clear hr
  generalize hb : Zb8 (Z6 fn) = bodies at h ha
  clear hb
  induction h with
  | nil => cases h1
  | @cons e rest i hu hg _ ih =>
    simp only [runL] at h1
    cases hc : (Nat.beq (ZaZ a) e.key && e.ss.ok s) with
    | false => rw [hc] at h1; exact ih h1
    | true =>
      rw [hc] at h1
      simp only [Bool.and_eq_true] at hc
      simp only [cond_true, Option.some.injEq] at h1
      subst h1
      exact uniq_spec hu (Q := fun a => Good cfg L a e) hg a ha (beqN hc.1) s (SS.mk_ok hc.2) r h2
section
variable {P : Program} {tab : Tab}
theorem sumOk_nil {f : FuncId} {T : TypeId} {l : List V} {r : V × List V} (h1 : SumOk P tab f [.nn T l] r) (h2 : l = [] → SumOk P tab f [.nl T] r) : SumOk P tab f [.inl T l] r := by
  intro w ok vals t n hr hnd hok hlt
  cases hr with | @cons _ v t1 n1 _ vs ts ns hx hxs =>
  cases hxs
  have hv : Rp tab w ok (.inl T l) v ∧ t1 = [] ∧ n1 = [] := by
    cases hx with | one hx => cases hx with | tree hx => exact ⟨hx, rfl, rfl⟩
  obtain ⟨hv, rfl, rfl⟩ := hv
  have hlent : Za3 [V.inl T l] [v] = [] := by simp [Za3, ZbE]
  cases hv with | inl _ _ ty a cap g off cv q1 q2 q3 q4 q5 q6 =>
  cases a with
  | some a =>
    have hr' : RqL (Rq2 tab w ok) [.nn T l] [.slice (some a) l.length cap] ([] ++ []) ([] ++ []) := .cons (.one (.tree (.nn T l a _ cap (.inl T l ty (some a) cap g off cv q1 q2 q3 q4 q5 q6)))) .nil
    exact h1 w ok _ _ _ hr' hnd hok hlt
  | none =>
    have hl : l = [] := by
      rcases l with _ | ⟨x, l⟩
      · rfl
      · have := (q3 (by simp)).1; cases this
    subst hl
    have hr' : RqL (Rq2 tab w ok) [.nl T] [.slice none ([] : List V).length cap] ([] ++ []) ([] ++ []) := .cons (.one (.tree (.nl T ty cap q1))) .nil
    exact h2 rfl w ok _ _ _ hr' hnd hok hlt
theorem Base.sumNil {cfg : Cfg} (hB : Base P cfg.tab) (hS : ZaV P cfg.tab cfg.sums) {f : FuncId} {fn : Func} (hf : P.funcs[f]? = some fn) (hok : fnOk fn = true) {L : Loops} (hL : ZQ cfg L (Z6 fn)) (T : TypeId) (hlen : Nat.ble 1 fn.ntmps = true)
    {α : Type} [Inhabited α] {F : List V → Option α} {shr : α → V × List V} (ws os : List (List S1)) (hw : ((ws.all fun s => s.all (s1Ok cfg.tab)) && (os.all fun s => s.all (s1Ok cfg.tab))) = true)
    (E1 : ∀ l, Agr (wkF ws os) shr (F l) (evalFn cfg L fn [.nn T l])) (E2 : Agr (wkF ws os) shr (F []) (evalFn cfg L fn [.nl T])) :
    ∀ args r, (bif Za5 [.one (.inl T)] args then some ((F (rd args 0).L).isSome, shr ((F (rd args 0).L).getD default)) else none) = some (true, r) → SumOk P cfg.tab f args r := by
  intro args r h
  cases hs : Za5 [.one (.inl T)] args with
  | false => rw [hs] at h; cases h
  | true =>
    rw [hs] at h
    simp only [cond_true, Option.some.injEq, Prod.mk.injEq] at h
    obtain ⟨h1, h2⟩ := h
    obtain ⟨x, hx⟩ := Option.isSome_iff_exists.1 h1
    rw [hx] at h2
    have ha := ZcD (pre := []) hs
    simp only [List.nil_append, List.length_nil, argsMk, S2.mk, S1.mk] at ha
    simp only [Bool.and_eq_true] at hw
    rw [← ha]
    have key : ∀ v, Agr (wkF ws os) shr (F (rd args 0).L) (evalFn cfg L fn [v]) → SumOk P cfg.tab f [v] r := fun v hE => by
      obtain ⟨r0, h3, h4⟩ := Option.map_eq_some_iff.1 (hE x hx)
      have := (hB.fn hS hf hok hL (args := [v]) hlen h3).weaken hw.1 hw.2
      rw [h4] at this
      rw [← h2]; exact this
    exact sumOk_nil (key _ (E1 _)) fun e => key _ (by rw [e]; exact E2)
end
end Go.Eng
