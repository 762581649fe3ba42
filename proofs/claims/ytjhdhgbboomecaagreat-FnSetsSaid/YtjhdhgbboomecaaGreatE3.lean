/- An own evaluator of the program's form, proved sound, and what it says of this law's functions: part 3. -/
import Derived.Test.YtjhdhgbboomecaaGreatE2
import Derived.ChangeSame
import Derived.ChangeStays
import Derived.Deep.RegionLaw
import Derived.Handed
import Derived.IntWalk
import Derived.Laws.Externs
import Derived.Laws.IdiomCopy
import Derived.Laws.NewBlocks
import Derived.Lib.AppendZeros
import Derived.Lib.AppendZerosOnto
import Derived.Lib.Bytealg
import Derived.Lib.BytesEntry
import Derived.Lib.Overlaps
import Derived.ReadAgain
import Derived.Test.YtjhdhgbboomecaaGreatProg
set_option linter.unusedVariables false
namespace Go.Eng
open RM
noncomputable section
def gEls (e : TypeId) : V → RM (List V × List Nat)
  | .nil _ => ret ([], [])
  | .sl id _ off len => match off, len with
    | 0, none => bind (get id) fun b => match b with
      | .grow T cs => test (decide (T = e)) (ret (cs, [id]))
      | _ => fail
    | _, _ => fail
  | _ => fail
def appendG (tab : Tab) (t t2 : TypeId) (nid : Nat) (s x : V) : RM Eff :=
  bind (lift ((tab t).bind (·.elem))) fun e => bind (lift (tab e)) fun ty =>
  bind (gEls e s) fun a => bind (gEls e x) fun b =>
  test (decide (ty.kinds.length = 1) && (b.1.all V.one && (isSeq tab t2 && (Zu (a.1.length + b.1.length) ty.bytes && Zbq (a.2 ++ b.2)))))
    (ret ⟨.sl nid e 0 none, ended (a.2 ++ b.2) ++ [(nid, some (.grow e (a.1 ++ b.1)))]⟩)
def buildG (tab : Tab) (t : TypeId) (nid : Nat) (x : V) : RM Eff :=
  bind (lift ((tab t).bind (·.elem))) fun e => bind (lift (tab e)) fun ty =>
  test (decide (ty.kinds.length = 1) && x.one) (ret ⟨.sl nid e 0 none, [(nid, some (.grow e [x]))]⟩)
def isPtr (tab : Tab) (t : TypeId) : Bool := match (tab t).bind (·.elem) with
  | some e => match tab e with
    | some ⟨[.ptr], false, _, _, _⟩ => true
    | _ => false
  | none => false
abbrev Fns := FuncId → Option Func
abbrev RunC := Code → St → Option (Ex × St)
def rmG (o : Oper) (s : St) (m : RM Eff) : Option (St × Rec) := match m.run s.heap with
  | some (E, log, c) => guards c (some (s.app o.dst E, ⟨log, E.upd.map (·.1), false⟩))
  | none => none
def okI1 (ks : List Nat) : V → Bool
  | .sl id _ _ _ => ks.contains id
  | .bp id _ => ks.contains id
  | .rp id _ _ => ks.contains id
  | .agg _ => false
  | .tup _ => false
  | .fn _ _ => false
  | _ => true
def okI (ks : List Nat) : V → Bool
  | .agg cs => cs.all (okI1 ks)
  | .tup cs => cs.all (okI1 ks)
  | .fn _ cs => cs.all (okI1 ks)
  | v => okI1 ks v
def okBk (ks : List Nat) : Option Blk → Bool
  | some (.box _ cs) => cs.all (okI ks)
  | some (.grow _ cs) => cs.all (okI ks)
  | some (.hrow ..) => false
  | _ => true
def closedG (hp : List (Nat × Option Blk)) (args : List V) : Bool := hp.all (fun p => okBk (hp.map (·.1)) p.2) && args.all (okI (hp.map (·.1)))
def maskOf (ks : List Nat) : Nat := List.rec 0 (fun k _ ih => Nat.lor ih (Nat.shiftLeft 1 k)) ks
def inM (m k : Nat) : Bool := Nat.beq (Nat.land (Nat.shiftRight m k) 1) 1
def allR {α : Type} (p : α → Bool) (l : List α) : Bool := List.rec true (fun a _ ih => bif p a then ih else false) l
def okM1 (m : Nat) (v : V) : Bool := V.casesOn (motive_1 := fun _ => Bool) v true (fun _ _ => true) (fun _ => true) (fun _ => true) (fun _ => false) (fun _ => false) (fun _ => true) (fun id _ _ _ => inM m id) (fun _ _ => true) (fun id _ => inM m id) (fun id _ _ => inM m id) (fun _ _ => true) (fun _ _ => true) (fun _ _ _ => true) (fun _ _ => true) (fun _ _ => false) (fun _ _ => true) (fun _ => true) true (fun _ _ => true) (fun _ _ _ => true)
def okM (m : Nat) (v : V) : Bool := V.casesOn (motive_1 := fun _ => Bool) v true (fun _ _ => true) (fun _ => true) (fun _ => true) (fun cs => allR (okM1 m) cs) (fun cs => allR (okM1 m) cs) (fun _ => true) (fun id _ _ _ => inM m id) (fun _ _ => true) (fun id _ => inM m id) (fun id _ _ => inM m id) (fun _ _ => true) (fun _ _ => true) (fun _ _ _ => true) (fun _ _ => true) (fun _ cs => allR (okM1 m) cs) (fun _ _ => true) (fun _ => true) true (fun _ _ => true) (fun _ _ _ => true)
def okMk (m : Nat) (b : Option Blk) : Bool := Option.casesOn b true fun b => Blk.casesOn b (fun _ cs => allR (okM m) cs) (fun _ _ _ => true) (fun _ _ => true) (fun _ _ _ _ _ => false) (fun _ cs => allR (okM m) cs)
def closedM (m : Nat) (hp : List (Nat × Option Blk)) (args : List V) : Bool := bif allR (fun p => okMk m p.2) hp then allR (okM m) args else false
def closedF (hp : List (Nat × Option Blk)) (args : List V) : Bool := closedM (maskOf (hp.map (·.1))) hp args
theorem allR_eq {α : Type} (p : α → Bool) : ∀ l : List α, allR p l = l.all p
  | [] => rfl
  | a :: r => by
    show (bif p a then allR p r else false) = _
    rw [allR_eq p r, List.all_cons]
    cases p a <;> rfl
theorem inM_eq (m k : Nat) : inM m k = m.testBit k := by
  unfold inM Nat.testBit
  show Nat.beq ((m >>> k) &&& 1) 1 = ((1 &&& (m >>> k)) != 0)
  rw [Nat.and_comm]
  have h : 1 &&& (m >>> k) = 0 ∨ 1 &&& (m >>> k) = 1 := by
    rw [Nat.and_comm, Nat.and_one_is_mod]; omega
  rcases h with h | h <;> rw [h] <;> rfl
theorem maskOf_spec : ∀ (ks : List Nat) (k : Nat), (maskOf ks).testBit k = ks.contains k
  | [], k => by show Nat.testBit 0 k = _; simp
  | a :: r, k => by
    show (maskOf r ||| (1 <<< a)).testBit k = _
    rw [Nat.testBit_or, maskOf_spec r k, Nat.one_shiftLeft, Nat.testBit_two_pow, List.contains_cons]
    by_cases h : a = k
    · subst h; simp
    · have : (k == a) = false := by simpa using fun e => h e.symm
      simp [h, this]
theorem okM1_eq (ks : List Nat) (v : V) : okM1 (maskOf ks) v = okI1 ks v := by
  have hk : ∀ k, inM (maskOf ks) k = ks.contains k := fun k => by rw [inM_eq, maskOf_spec]
  cases v <;> first | rfl | exact hk _
theorem okM_eq (ks : List Nat) (v : V) : okM (maskOf ks) v = okI ks v := by
  have hf : okM1 (maskOf ks) = okI1 ks := funext fun v => okM1_eq ks v
  have hk : ∀ k, inM (maskOf ks) k = ks.contains k := fun k => by rw [inM_eq, maskOf_spec]
  have ha : ∀ cs, allR (okM1 (maskOf ks)) cs = cs.all (okI1 ks) := fun cs => by rw [allR_eq, hf]
  cases v <;> first | rfl | exact hk _ | exact ha _
theorem closedF_eq (hp : List (Nat × Option Blk)) (args : List V) : closedF hp args = closedG hp args := by
  unfold closedF closedM closedG
  have hf : okM (maskOf (hp.map (·.1))) = okI (hp.map (·.1)) := funext fun v => okM_eq _ v
  have ha : ∀ cs, allR (okM (maskOf (hp.map (·.1)))) cs = cs.all (okI (hp.map (·.1))) := fun cs => by rw [allR_eq, hf]
  have hb : okMk (maskOf (hp.map (·.1))) = okBk (hp.map (·.1)) := by
    funext b
    cases b with
    | none => rfl
    | some b => cases b <;> first | rfl | exact ha _
  simp only [allR_eq, hf, hb]
  cases (hp.all fun p => okBk (hp.map (·.1)) p.2) <;> rfl
section
variable (cfg : Cfg) (fns : Fns) (rec : RunC) (dr : Bool)
def plainG (o : Oper) (s : St) : Option (St × Rec) := rmG o s (Zbo cfg s.nid o s.ev)
def callG (o : Oper) (s : St) (fn : Func) (args : List V) : Option (St × Rec) := match fn.body with
  | none => none
  | some c => bif Nat.ble args.length fn.ntmps && (!dr || closedF s.hp args) then match rec c { sl := ZbP 0 args, hp := s.hp, nid := s.nid, lent := [] } with
      | some (.exit _, _) => none
      | some (_, s') => match (Zdu cfg.tab s' fn.results.toList).run s'.heap with
        | some (vs, _, cs) => guards cs (some ({ sl := (match o.dst with | some d => (d, tupOf vs) :: s.sl | none => s.sl), hp := s'.hp, nid := s'.nid, lent := s.lent }, ⟨s.hp.map (·.1), (s'.hp.take (s'.hp.length - s.hp.length)).reverse.map (·.1), !dr⟩))
        | none => none
      | none => none
    else none
def opG (o : Oper) (s : St) : Option (St × Rec) := match o.op with
  | .call c => match c.callee with
    | .value f => match sft s.ev f with
      | .fn g caps => match fns g with
        | some fn => callG cfg rec dr o s fn (c.args.toList.map (sft s.ev) ++ caps)
        | none => plainG cfg o s
      | _ => none
    | .builtin .append => match c.argTypes.toList, c.args.toList with
      | [t, t2], [x, y] => bif isPtr cfg.tab t then rmG o s (appendG cfg.tab t t2 s.nid (sft s.ev x) (sft s.ev y)) else plainG cfg o s
      | _, _ => none
    | _ => plainG cfg o s
  | .buildSlice t n ps => bif isPtr cfg.tab t then match n, ps.toList with
      | 1, [(0, x)] => rmG o s (buildG cfg.tab t s.nid (sft s.ev x))
      | _, _ => none
    else plainG cfg o s
  | _ => plainG cfg o s
def xPick (ev : Operand → V) (c a b : Operand) : RM Eff := match ev c with
  | .bool t => ret ⟨if t then ev a else ev b, []⟩
  | _ => fail
def xAlloc (nid T : Nat) : RM Eff := bind (lift (cfg.tab T)) fun ty => ret ⟨.bp nid 0, [(nid, some (.box T (ty.kinds.map zeroC)))]⟩
def xBox (nid T : Nat) (x : V) : RM Eff := bind (lift (cfg.tab T)) fun ty =>
  test (decide (x.cells.length = ty.kinds.length) && x.cells.all V.one) (ret ⟨.bp nid 0, [(nid, some (.box T (ZV cfg.tab ty.kinds x.cells)))]⟩)
def xBuild (T : Nat) (ps : List (Nat × V)) : RM Eff := bind (lift (cfg.tab T)) fun ty =>
  bind (lift (ZcW (fun i => ty.fields[i]?.bind fun fd => (cfg.tab fd.2).map fun ft => (fd.1, ft.kinds.length)) (ty.kinds.map zeroC) ps)) fun cs =>
  test (ty.agg && ps.all fun p => p.2.cells.all V.one) (ret ⟨.agg (ZV cfg.tab ty.kinds cs), []⟩)
def xRow (nid t n : Nat) (ps : List (Nat × V)) : RM Eff := bind (lift ((cfg.tab t).bind (·.elem))) fun e => bind (lift (cfg.tab e)) fun ty =>
  test (zeroOk cfg.tab ty && decide (n * ty.kinds.length ≤ 16777216)) <|
  bind (rowParts cfg.tab ty (List.replicate n (zeroEl ty)) ps) fun r => test (Zbq r.2.2) (ret ⟨.sl nid e 0 none, ended r.2.2 ++ [(nid, some (.row e r.2.1 r.1))]⟩)
def xStore (t : Nat) (p x : V) : RM Eff := bind (storeD cfg.tab t p x) fun u => ret ⟨.dead, u⟩
def xNil : V → RM Eff
  | .bp id off => ret ⟨.bp id off, []⟩
  | .rp id i off => ret ⟨.rp id i off, []⟩
  | .ep cs off => ret ⟨.ep cs off, []⟩
  | .fn f caps => ret ⟨.fn f caps, []⟩
  | _ => fail
def x1 (m : RM V) : RM Eff := bind m fun v => ret ⟨v, []⟩
def xBin (op : BinOp) (t : Nat) (x y : V) (x0 : V) (nil : Bool) : RM Eff := match nil with
  | true => bind (lift ((cfg.tab t).bind (·.elem))) fun _ => x1 (lift (nilV op x0))
  | false => test (binOk op y) (x1 (lift (binL cfg.tab t op x y)))
def xConv (nid s d : Nat) : V → RM Eff
  | .str l => match cfg.rof ownCv with
    | true => strBytesO cfg.tab nid s d l
    | false => strBytes cfg.tab s d l
  | .sl id T 0 none => match slDst cfg.tab d with
    | true => idConv cfg.tab s d id
    | false => x1 (convV cfg.tab s d (.sl id T 0 none))
  | y => x1 (convV cfg.tab s d y)
def xFn (fn : Fn) (first captured : Array Operand) (ev : Operand → V) : RM Eff := match fn with
  | .func f => test first.toList.isEmpty (ret ⟨.fn f (captured.toList.map ev), []⟩)
  | _ => fail
def xIdx (t : Nat) (x i : V) : RM Eff := match x, i with
  | .str l, .int _ n => test (isStr cfg.tab t && Zm n l.length) (ret ⟨.int .u8 (l.getD n.toNat .dead).I, []⟩)
  | _, _ => fail
def xExt (x : V) (i : Nat) : RM Eff := match x with
  | .tup vs => x1 (lift vs[i]?)
  | _ => fail
def xCall (o : Oper) (s : St) (c : Call) : Option (St × Rec) := match c.callee with
  | .value f => match sft s.ev f with
    | .fn g caps => match fns g with
      | some fn => callG cfg rec dr o s fn (c.args.toList.map (sft s.ev) ++ caps)
      | none => rmG o s (callV cfg s.nid g (c.args.toList.map (sft s.ev) ++ caps))
    | _ => none
  | .builtin .append => match c.argTypes.toList, c.args.toList with
    | [t, t2], [x, y] => bif isPtr cfg.tab t then rmG o s (appendG cfg.tab t t2 s.nid (sft s.ev x) (sft s.ev y)) else rmG o s (appendV cfg.tab t t2 s.nid (sft s.ev x) (sft s.ev y))
    | _, _ => none
  | .builtin b => rmG o s (Zdq cfg s.nid b c.argTypes.toList (c.args.toList.map (sft s.ev)))
  | _ => none
def xSlice (o : Oper) (s : St) (t n : Nat) (ps : Array (Nat × Operand)) : Option (St × Rec) := bif isPtr cfg.tab t then match n, ps.toList with
    | 1, [(0, x)] => rmG o s (buildG cfg.tab t s.nid (sft s.ev x))
    | _, _ => none
  else rmG o s (xRow cfg s.nid t n (ZbS (sft s.ev) ps))
def opF (o : Oper) (s : St) : Option (St × Rec) := Op.casesOn (motive := fun _ => Option (St × Rec)) o.op
  (fun x => rmG o s (ret ⟨typed cfg.tab o.type (s.ev x), []⟩)) (fun x => rmG o s (ret ⟨typed cfg.tab o.type (s.ev x), []⟩))
  (fun c a b => rmG o s (xPick (sft s.ev) c a b)) (fun T => rmG o s (xAlloc cfg s.nid T)) (fun T x => rmG o s (xBox cfg s.nid T (sft s.ev x))) (fun T ps => rmG o s (xBuild cfg T (ZbS (sft s.ev) ps)))
  (fun t n ps => xSlice cfg o s t n ps) (fun _ _ _ _ => none) (fun t p => rmG o s (loadD cfg.tab s.nid t (sft s.ev p))) (fun t p x => rmG o s (xStore cfg t (sft s.ev p) (sft s.ev x))) (fun _ => none) (fun _ => none)
  (fun x => rmG o s (xNil (sft s.ev x))) (fun op t x y _ => rmG o s (xBin cfg op t (sft s.ev x) (sft s.ev y) (s.ev x) (isNilC y))) (fun op _ x => rmG o s (x1 (lift (unV op (sft s.ev x))))) (fun a d x => rmG o s (xConv cfg s.nid a d (sft s.ev x)))
  (fun _ _ => none) (fun _ _ => none) (fun fn f c => rmG o s (xFn fn f c (sft s.ev))) (fun _ _ => none) (fun _ _ => none) (fun t n c => rmG o s (ZcH cfg.tab t s.nid (sft s.ev n) (sft s.ev c)))
  (fun t x lo hi mx => rmG o s (x1 (sliceV cfg.tab t (sft s.ev x) (lo.map (sft s.ev)) (hi.map (sft s.ev)) (mx.map (sft s.ev))))) (fun t x f => rmG o s (x1 (lift (fieldV cfg.tab t (sft s.ev x) f)))) (fun t x f => rmG o s (x1 (lift (fieldOf cfg.tab t (sft s.ev x) f))))
  (fun t x i => rmG o s (x1 (Zc2 cfg.tab t (sft s.ev x) (sft s.ev i)))) (fun t x i => rmG o s (xIdx cfg t (sft s.ev x) (sft s.ev i))) (fun _ _ _ _ => none) (fun _ _ _ _ => none) (fun _ _ _ => none) (fun _ _ _ _ => none) (fun _ _ => none) (fun _ _ => none) (fun _ => none)
  (fun _ _ _ _ => none) (fun x i => rmG o s (xExt (sft s.ev x) i)) (fun c => xCall cfg fns rec dr o s c) (fun _ => none) (fun _ => none) (fun _ => none) (fun _ _ => none) (fun _ _ _ => none) (fun _ _ => none)
theorem opF_eq (o : Oper) (s : St) : opF cfg fns rec dr o s = opG cfg fns rec dr o s := by
  obtain ⟨dst, op, type, pos, after, guard⟩ := o
  cases op
  case buildSlice t n ps =>
    show xSlice cfg _ s t n ps = _
    unfold xSlice opG
    simp only []
    cases isPtr cfg.tab t <;> rfl
  case index t x i =>
    show rmG _ s (xIdx cfg t (sft s.ev x) (sft s.ev i)) = _
    rfl
  case makeFunc fn f c => cases fn <;> rfl
  case call c =>
    show xCall cfg fns rec dr _ s c = _
    unfold xCall opG
    simp only []
    cases hc : c.callee with
    | value f =>
      simp only []
      cases hf : sft s.ev f with
      | fn g caps =>
        simp only []
        cases hg : fns g with
        | some fn => rfl
        | none =>
          simp only [plainG, Zbo, hc]
          have hf' : sft s.ev f = .fn g caps := hf
          simp only [hf']
      | _ => rfl
    | builtin b =>
      cases b
      case append =>
        simp only []
        split
        · rename_i t t2 x y ht hx
          cases isPtr cfg.tab t with
          | true => rfl
          | false => simp only [cond_false, plainG, Zbo, hc, ht, hx, List.map_cons, List.map_nil, Zdq]
        · rfl
      all_goals simp only [plainG, Zbo, hc]
    | invoke r m => simp only [plainG, Zbo, hc]; rfl
  all_goals rfl
def opsG (all : List Oper) : List Oper → St → List Rec → Option (St × List Rec)
  | [], s, tr => some (s, tr)
  | o :: r, s, tr => match o.guard with
    | none => match opF cfg fns rec dr o s with
      | some (s, x) => opsG all r s (x :: tr)
      | none => none
    | some (j, want) => match all[j]?.bind (·.dst) with
      | none => none
      | some t => match s.slot t with
        | .bool b => bif b == want then match opF cfg fns rec dr o s with
            | some (s, x) => opsG all r s (x :: tr)
            | none => none
          else opsG all r (s.put o.dst .sk) (⟨[], [], false⟩ :: tr)
        | .sk => opsG all r (s.put o.dst .sk) (⟨[], [], false⟩ :: tr)
        | _ => none
end
abbrev Clear := Nat → Option (List Nat)
def insideG (h : List (Nat × Option Blk)) (id : Nat) : List Nat := match look h id with
  | some (some (.box _ cs)) => cs.flatMap ids1
  | some (some (.grow _ cs)) => cs.flatMap ids1
  | _ => []
def closeG (h : List (Nat × Option Blk)) : Nat → List Nat → List Nat
  | 0, ids => ids
  | n + 1, ids => closeG h n (Zcd ids (ids.flatMap (insideG h)))
def canonG (keep : List Nat) (s : St) : St := canonBy keep s (closeG s.hp 4 (Zcd (Zcd [] s.lent) (keep.flatMap fun t => idsV (s.slot t))))
def clearG (cn : Clear) (k : Nat) (s : St) : St := match cn k with
  | some keep => canonG keep s
  | none => s
def stepG (cfg : Cfg) (fns : Fns) (rec : Clear → RunC) (cn : Clear) : RunC
  | .skip, s => some (.normal, s)
  | .label _, s => some (.normal, s)
  | .region _ ops draw, s => match opsG cfg fns (rec fun _ => none) draw ops.toList ops.toList s [] with
    | some (s, tr) => bif !draw || (noMods tr || Zck (CheckFast.beforeF ops).toList 0 tr.reverse) then some (.normal, s) else none
    | none => none
  | .seq a b, s => match rec cn a s with
    | some (.normal, s') => rec cn b s'
    | r => r
  | .cond c a b, s => match c with
    | .tmp t => match s.slot t with
      | .bool x => bif x then rec cn a s else rec cn b s
      | _ => none
    | .const (.bool true) => rec cn a s
    | .const (.bool false) => rec cn b s
    | _ => none
  | .block id a, s => match rec cn a s with
    | some (.exit j, s') => bif Nat.beq j id then some (.normal, s') else some (.exit j, s')
    | r => r
  | .loop a, s => match rec cn a s with
    | some (.normal, s') => rec cn (.loop a) (clearG cn (ZaZ a) s')
    | r => r
  | .exit id, s => some (.exit id, s)
  | .ret, s => some (.ret, s)
  | _, _ => none
def evalG (cfg : Cfg) (fns : Fns) (n : Nat) : Clear → RunC := Nat.rec (fun _ _ _ => none) (fun _ ih => stepG cfg fns ih) n
def Zcv (cfg : Cfg) (fns : Fns) (cn : Clear) (n : Nat) (fn : Func) (args : List V) : Option (V × List V) := match fn.body with
  | none => none
  | some c => match evalG cfg fns n cn c (entry args) with
    | some (.exit _, _) => none
    | some (_, s) => kept (args.flatMap lkOf) (finish cfg.tab fn.results.toList (cutAll (Zc4 cfg.tab s s.lent) []))
    | none => none
def runClone (cfg : Cfg) (fns : Fns) (fuel : Nat) (fn : Func) : List V → Option (V × List V)
  | [.inl T l] => match Zcv cfg fns (fun _ => none) fuel fn [.nn T l] with
    | some (.rr T' o l', []) => bif l.isEmpty then match Zcv cfg fns (fun _ => none) fuel fn [.nl T] with
        | some (.nil _, []) => bif l'.isEmpty && (cfg.tab T').isSome then some (.rr T' o l', []) else none
        | _ => none
      else some (.rr T' o l', [])
    | _ => none
  | _ => none
def runSums (P : Program) (cfg : Cfg) (fns : Fns) (fl cl : List Nat) (cnf : Nat → Clear) (fuel : Nat) (n : Nat) : Sums := Nat.rec cfg.sums (fun _ ih f args => match cfg.sums f args with
  | some r => some r
  | none => bif fl.contains f then match P.funcs[f]? with
      | some fn => bif Nat.ble args.length fn.ntmps then match bif cl.contains f then runClone { cfg with sums := ih } fns fuel fn args else Zcv { cfg with sums := ih } fns (cnf f) fuel fn args with
          | some r => some (true, r)
          | none => none
        else none
      | none => none
    else none) n
section
variable {P : Program} {tab : Tab}
theorem gEls_sound {E : Entry} {M : Mem} (hM : MemOk tab E M) {e : TypeId} {ty : Ty} (he : tab e = some ty) {s : V} {sv : Value} {l : List V} {K log : List Nat} (hs : M.Rs tab E s sv) (h : gEls e s M.hp = some ((l, K), log)) :
    ∃ a cap xs, sv = .slice a l.length cap ∧ RowIs M.w e ty.kinds.length l.length (.slice a l.length cap) xs ∧ (∀ j, j < l.length → M.Rs tab E (l.getD j .dead) (xs.getD j undef)) ∧ ∀ g ∈ Zo (.slice a l.length cap), ∃ k ∈ K, g ∈ M.top k := by
  cases s with
  | nil T =>
    cases Zj (h := M.hp) h
    obtain ⟨a, rfl⟩ := hs.nil
    have ht : Zo (.slice a 0 0) = [] := by cases a <;> rfl
    exact ⟨a, 0, [], rfl, ⟨by simp, .inl ⟨a, rfl, rfl⟩⟩, by simp, fun g hg => by rw [List.length_nil, ht] at hg; cases hg⟩
  | sl id T off len =>
    cases off with
    | succ n => exact (Zk (h := M.hp) h).elim
    | zero =>
      cases len with
      | some n => exact (Zk (h := M.hp) h).elim
      | none =>
        obtain ⟨blk, l1, b1, l1', h6, h7, h8⟩ := Zi (h := M.hp) h
        cases h8
        obtain ⟨h6, -⟩ := Zan h6
        cases blk with
        | grow T' cs =>
          obtain ⟨hte, h7'⟩ := Zt h7
          obtain rfl : T' = e := by simpa using hte
          cases Zj h7'
          obtain ⟨ty', v, xs, q1, q2, q3, q4, q5, q6, q7⟩ := hM.blocks id _ h6
          obtain rfl : ty = ty' := Option.some.inj (he.symm.trans q1)
          cases hs with
          | tree hs => cases hs
          | sl _ _ _ _ sz N a a' cap n k1 k2 k3 k4 k5 k6 =>
            have e := q3.symm.trans k1
            simp only [Option.some.injEq, RB.row.injEq] at e
            obtain ⟨rfl, rfl, rfl, rfl⟩ := e
            obtain rfl := k6 rfl
            simp only [Option.getD_none, Nat.sub_zero] at k3
            subst k3
            exact ⟨a', cap, xs, by rw [Nat.sub_zero], q4, q5, fun g hg => ⟨id, by simp, by rw [q6]; exact hg⟩⟩
        | _ => exact (Zk h7).elim
  | _ => exact (Zk (h := M.hp) h).elim
theorem row_first {w w' : World} {T sz N cap : Nat} {a : Option Addr} {xs : List Value} (h : RowIs w T sz N (.slice a N cap) xs) (hw : ∀ g, g < w.heap.size → w'.heap[g]? = w.heap[g]?) :
    (Builtin.firstCells sz N (.slice a N cap)).run P w' = .ok xs.toArray w' := by
  have h' := h.keep (w' := w') fun g hg => hw g (h.top_lt g hg)
  rcases h'.2 with ⟨b, e3, h0⟩ | ⟨g, cap', cur, e3, hc', hg, hNc, hcm, hcs, htk⟩
  · have hx0 : xs = [] := List.eq_nil_of_length_eq_zero (by rw [h'.1, h0]; simp)
    rw [h0, hx0]
    cases a <;> simp [Builtin.firstCells, loadCells, loadCellsFrom]
  · simp only [Value.slice.injEq] at e3
    obtain ⟨rfl, -, rfl⟩ := e3
    refine run_firstCells_some (P := P) w' sz N _ _ _ _ h'.1 fun j v hv => ?_
    have hj : j < xs.length := (List.getElem?_eq_some_iff.1 hv).1
    obtain ⟨g', cap', e4, _, _, hcell⟩ := h'.cell j (by rw [← h'.1]; exact hj)
    cases e4
    rw [Addr.add_none, Nat.zero_add, hcell]
    simp [List.getD, hv]
theorem getD_app {α : Type} (a b : List α) (d : α) (j : Nat) : (a ++ b).getD j d = if j < a.length then a.getD j d else b.getD (j - a.length) d := by
  simp only [List.getD, List.getElem?_append]; split <;> rfl
theorem grow_step {E : Entry} {M : Mem} (hM : MemOk tab E M) {nid : Nat} (hn : M.hp nid = none) {e : TypeId} {ty : Ty} (he : tab e = some ty) (h1 : ty.kinds.length = 1) {l : List V} {vals : List Value} {K : List Nat}
    {w' : World} {v : Value} (hrow : RowIs w' e ty.kinds.length l.length v vals) (hl : ∀ j, j < l.length → M.Rs tab E (l.getD j .dead) (vals.getD j undef))
    {F : List Nat} (hk : KeptBut F M.w w') (hF : ∀ g ∈ F, ∃ k ∈ K, g ∈ M.top k) (hv : ∀ g ∈ Zo v, g ∈ F ∨ M.w.heap.size ≤ g) :
    ∃ M', M'.w = w' ∧ StepOk tab E M ⟨.sl nid e 0 none, ended K ++ [(nid, some (.grow e l))]⟩ v M' := by
  have hnd : (Zo v ++ []).Nodup := by
    rw [List.append_nil]
    rcases hrow.2 with ⟨a, rfl, _⟩ | ⟨g, cap, cur, rfl, _⟩
    · cases a <;> simp [Zo]
    · cases cap <;> simp [Zo]
  have main := put_ok hM w' K nid (.row e ty.kinds.length l.length v) (.grow e l) (Zo v) [] (.inl (hM.fresh nid hn).1) hk.os hk.tape hk.output hk.size
    (fun g hg hno => hk.block g hg fun hgF => by obtain ⟨k, hkK, hgk⟩ := hF g hgF; exact hno k (.inr hkK) hgk)
    (fun g hg => (hv g hg).imp (fun hgF => by obtain ⟨k, hkK, hgk⟩ := hF g hgF; exact ⟨k, .inr hkK, hgk⟩) id)
    (fun g hg => by cases hg) hnd (fun g hg => hrow.top_lt g (by simpa using hg))
    fun hle => ⟨ty, v, vals, he, h1, rfl, hrow, fun j hj => hle.rs (hl j hj), rfl, rfl⟩
  refine ⟨_, rfl, main.1, main.2, by rw [put_hp], ?_⟩
  have hnc : ∃ a cap, v = .slice a l.length cap ∧ l.length ≤ cap := by
    rcases hrow.2 with ⟨a, rfl, h0⟩ | ⟨g, cap, cur, rfl, _, _, hnc, _⟩
    · exact ⟨a, 0, by rw [h0], by omega⟩
    · exact ⟨_, cap, rfl, hnc⟩
  obtain ⟨a, cap, rfl, hc⟩ := hnc
  exact .sl nid e 0 none ty.kinds.length l.length a a cap l.length (by simp [Mem.put]) hc (by simp) (by omega) (fun _ => by cases a <;> simp [Addr.add_zero']) (fun _ => rfl)
theorem appendG_sound (hT : Zv P tab) {E : Entry} {M : Mem} (hM : MemOk tab E M) {nid : Nat} (hn : M.hp nid = none) {t t2 ot : TypeId} {s x : V} {sv xv : Value} {Ef : Eff} {log : List Nat}
    (hs : M.Rs tab E s sv) (hx : M.Rs tab E x xv) (h : appendG tab t t2 nid s x M.hp = some (Ef, log)) :
    ∃ M' val, (Builtin.append_ #[t, t2] ot #[sv, xv]).run P M.w = .ok val M'.w ∧ StepOk tab E M Ef val M' := by
  unfold appendG at h
  obtain ⟨e, l1, b1, l1', h1, h2, h3⟩ := Zi h
  cases h3
  obtain ⟨h1, -⟩ := Zs h1
  obtain ⟨ty0, h0, h1⟩ := Option.bind_eq_some_iff.1 h1
  obtain ⟨ty, l2, b2, l2', h3, h4, h5⟩ := Zi h2
  cases h5
  obtain ⟨h3, -⟩ := Zs h3
  have hu := ((hT t ty0 h0).elem e h1).1
  obtain ⟨⟨bl, bK⟩, l3, b3, l3', h5, h6, h7⟩ := Zi h4
  cases h7
  obtain ⟨⟨ml, mK⟩, l4, b4, l4', h7, h8, h9⟩ := Zi h6
  cases h9
  obtain ⟨h9, h10⟩ := Zt h8
  cases Zj h10
  simp only [Bool.and_eq_true, decide_eq_true_eq] at h9
  obtain ⟨hk1, hone, hseq, hroom, hdis⟩ := h9
  have hroom' : bl.length + ml.length ≤ 9223372036854775807 ∧ (bl.length + ml.length) * ty.bytes ≤ 140737488355328 := by
    simpa [Zu] using hroom
  obtain ⟨a, cap, xs, rfl, r1, r2, r3⟩ := gEls_sound hM h3 hs h5
  obtain ⟨a2, cap2, ys, rfl, m1, m2, m3⟩ := gEls_sound hM h3 hx h7
  have hxl : xs.length = bl.length := by rw [r1.1, hk1, Nat.mul_one]
  have hyl : ys.length = ml.length := by rw [m1.1, hk1, Nat.mul_one]
  obtain ⟨v', w', hr, k1, k2, k3⟩ := append_run (P := P) hu (hT e ty h3) (isSeq_spec hT hseq) (ot := ot) r1 (Nat.le_refl _) (xv := .slice a2 ml.length cap2) m1.1 (fun v hv => by
      obtain ⟨j, hj, rfl⟩ := List.mem_iff_getElem.1 hv
      have hm := m2 j (by omega)
      rw [ZbT _ _ _ hj] at hm
      refine hm.one' ?_
      rw [ZbT _ _ _ (by omega : j < ml.length)]
      exact List.all_eq_true.1 hone _ (List.getElem_mem _)) (fun w' => by simp [Builtin.lenOf]) (fun w' hw' => row_first m1 hw') hroom'.1 hroom'.2
  have htk : xs.take (bl.length * ty.kinds.length) = xs := by rw [← r1.1, List.take_length]
  rw [htk] at k1
  have hgl : ∀ j, j < (bl ++ ml).length → M.Rs tab E ((bl ++ ml).getD j .dead) ((xs ++ ys).getD j undef) := fun j hj => by
    rw [getD_app, getD_app, hxl]
    rw [List.length_append] at hj
    split
    · rename_i hc; exact r2 j hc
    · exact m2 _ (by omega)
  obtain ⟨M', hw, hstep⟩ := grow_step (K := bK ++ mK) (l := bl ++ ml) hM hn h3 hk1 (by rw [List.length_append]; exact k1) hgl k2 (fun g hg => by obtain ⟨k, hk, hgk⟩ := r3 g hg; exact ⟨k, List.mem_append_left _ hk, hgk⟩)
    (fun g hg => (k3 g hg).imp id fun e => by omega)
  exact ⟨M', v', by rw [hw]; exact hr, hstep⟩
theorem buildG_sound (hT : Zv P tab) {E : Entry} {M : Mem} (hM : MemOk tab E M) {nid : Nat} (hn : M.hp nid = none) {t : TypeId} {x : V} {v : Value} {Ef : Eff} {log : List Nat}
    (hx : M.Rs tab E x v) (h : buildG tab t nid x M.hp = some (Ef, log)) : ∃ M' val, (Instr.buildSlice t 1 #[(0, v)]).run P M.w = .ok val M'.w ∧ StepOk tab E M Ef val M' := by
  unfold buildG at h
  obtain ⟨e, l1, b1, l1', h1, h2, h3⟩ := Zi h
  cases h3
  obtain ⟨h1, -⟩ := Zs h1
  obtain ⟨ty0, h0, h1⟩ := Option.bind_eq_some_iff.1 h1
  obtain ⟨ty, l2, b2, l2', h3, h4, h5⟩ := Zi h2
  cases h5
  obtain ⟨h3, -⟩ := Zs h3
  obtain ⟨h9, h10⟩ := Zt h4
  cases Zj h10
  simp only [Bool.and_eq_true, decide_eq_true_eq] at h9
  obtain ⟨hk1, hone⟩ := h9
  have hcx : x.cells = [x] := by cases x <;> first | rfl | cases hone
  have hone : x.cells.all V.one = true := by rw [hcx]; simpa using hone
  have hu := ((hT t ty0 h0).elem e h1).1
  have hty := hT e ty h3
  obtain ⟨i, z, hi, hs, hb, hz', hzc, -⟩ := hty.info
  have hzs : z.cells.size = ty.kinds.length := by rw [← Array.length_toList, hzc]; simp
  obtain ⟨c1, c2, -⟩ := Zcl hx hone
  rw [hcx] at c1 c2
  have hvs : v.cells.size = ty.kinds.length := by rw [← Array.length_toList, c1, hk1]; rfl
  have e3 : Instr.fill (fun i => some (i * ty.kinds.length, ty.kinds.length)) (madeCells z.cells (1 * ty.kinds.length)) [(0, v)] = some v.cells := by
    rw [fill_step _ _ 0 (0 * ty.kinds.length) ty.kinds.length v [] rfl hvs (by simp [madeCells])]
    simp only [Instr.fill, Option.some.injEq]
    apply Array.ext'
    have hm : (madeCells z.cells (1 * ty.kinds.length)).toList.drop (0 * ty.kinds.length + v.cells.toList.length) = [] := by
      apply List.drop_eq_nil_of_le
      simp [madeCells, hvs]
    rw [hm]; simp
  have hrun : (Instr.buildSlice t 1 #[(0, v)]).run P M.w = .ok (.slice (some ⟨M.w.heap.size, 0, none⟩) 1 1) (M.w.alloc (.cells v.cells e)) := by
    have hc2 : ¬ (1 * ty.kinds.length > 2 ^ 24) := by omega
    have hsz := hty.sizeOf M.w
    have hzv : (zeroValue e).run P M.w = .ok z M.w := by simp only [zeroValue, Sem.run_bind, typeInfo, run_program, Result.andThen_ok, hi, Sem.run_pure, hz']
    have hz0 : ¬ 1 * ty.kinds.length = 0 := by omega
    have hv0 : madeCells z.cells (1 * ty.kinds.length) = (Array.range (1 * ty.kinds.length)).map (fun x => z.cells[x % z.cells.size]!) := rfl
    rw [hv0] at e3
    simp only [Instr.buildSlice, Sem.run_bind, run_underlying hu, Result.andThen_ok, hsz, Sem.run_ite, if_neg hc2, if_neg hz0, hzv, Sem.run_pure, e3, newRow, run_newObj, World.alloc]
  have hrow := row_alloc (w := M.w) (T := e) (sz := ty.kinds.length) (n := 1) (cur := v.cells) (by rw [hvs, Nat.one_mul]) (by simp [maxLen])
  obtain ⟨M', hw, hst⟩ := grow_step (K := []) (l := [x]) (vals := v.cells.toList) hM hn h3 hk1 hrow (fun j hj => c2 j (by simpa using hj)) (F := []) ⟨rfl, rfl, rfl, by simp, fun g hg _ => heap_alloc_old _ _ _ hg⟩ (fun g hg => by cases hg) topOf_alloc
  exact ⟨M', _, by rw [hw]; exact hrun, hst⟩
def FnsOk (P : Program) (fns : Fns) : Prop := ∀ g fn, fns g = some fn → P.funcs[g]? = some fn ∧ (fn.name == "runtime.NumGoroutine") = false ∧ ∀ c, fn.body = some c → ZaE fn.ntmps c = true
def Keys (s s' : St) : Prop := ∃ l, s'.hp = l ++ s.hp
def Fresh (s : St) : Prop := ∀ id, s.nid ≤ id → s.heap id = none
def RecOk (P : Program) (tab : Tab) (E : Entry) (rec : RunC) : Prop := ∀ c s e s', rec c s = some (e, s') → (Keys s s' ∧ (Fresh s → Fresh s')) ∧ ∀ N ps, ZaE N c = true → ∀ M a, Rel tab E N ps M s a → ∀ Q : Exit → Act → World → Prop,
  (∀ M' a', Rel tab E N ps M' s' a' → MemLe E M M' → Q (exitOf e) a' M'.w) → c.wp P Q a M.w
theorem Local.appendG (tab : Tab) (t t2 : TypeId) (nid : Nat) (s x : V) : Local (appendG tab t t2 nid s x) := by
  have hg : ∀ e v, Local (gEls e v) := fun e v => by
    unfold gEls
    repeat' (first | exact Local.ret _ | exact Local.fail | exact Local.get _ | (refine Local.bind ?_ fun _ => ?_) | (refine Local.test _ ?_) | split)
  unfold Eng.appendG
  repeat' (first | exact Local.ret _ | exact hg _ _ | exact Local.lift _ | (refine Local.bind ?_ fun _ => ?_) | (refine Local.test _ ?_))
theorem Local.buildG (tab : Tab) (t : TypeId) (nid : Nat) (x : V) : Local (buildG tab t nid x) := by
  unfold Eng.buildG
  repeat' (first | exact Local.ret _ | exact Local.lift _ | (refine Local.bind ?_ fun _ => ?_) | (refine Local.test _ ?_))
theorem rmG_inv {o : Oper} {s s1 : St} {r : Rec} {m : RM Eff} (h : rmG o s m = some (s1, r)) : ∃ Ef, m s.heap = some (Ef, r.log) ∧ s1.F = Zat s.F ⟨o.dst, Ef.v, Ef.upd, r.log⟩ ∧ r.mods = Ef.upd.map (·.1) ∧ r.all = false ∧ s1.nid = Zcc s.nid Ef.upd ∧ s1.lent = s.lent := by
  unfold rmG at h
  split at h
  · rename_i E l c he
    obtain ⟨hc, h⟩ := Zc6 h
    cases h
    exact ⟨E, rm_at.2 ⟨c, he, hc⟩, app_F s o.dst E l, rfl, rfl, rfl, rfl⟩
  · cases h
def EffX (P : Program) (tab : Tab) (E : Entry) (o : Oper) (s s1 : St) (r : Rec) : Prop :=
  ∃ Ef : Eff, s1.F = Zat s.F ⟨o.dst, Ef.v, Ef.upd, r.log⟩ ∧ r.mods = Ef.upd.map (·.1) ∧ s1.lent = s.lent ∧ (∀ id, s1.nid ≤ id → s1.heap id = none) ∧
    ∀ F' : Fs, (∀ x ∈ o.op.operands, ev F'.sl x = s.ev x) → (∀ k ∈ r.log, F'.hp k = s.heap k) → (r.all = true → F'.hp = s.heap) → (∀ k ∈ r.mods, F'.hp k = s.heap k) →
      ∀ (M : Mem) (a : Act), MemOk tab E M → M.hp = F'.hp → Slots tab E M F'.sl a → ∀ Q : Exit → Act → World → Prop, o.wp P a M.w (OpOk tab E M o a Ef) Q
theorem appendG_key {t t2 : TypeId} {nid : Nat} {s x : V} {hp : Zam} {Ef : Eff} {log : List Nat} (h : appendG tab t t2 nid s x hp = some (Ef, log)) : nid ∈ Ef.upd.map (·.1) := by
  obtain ⟨e, l1, b1, l1', h1, h2, h3⟩ := Zi h
  obtain ⟨ty, l2, b2, l2', h4, h5, h6⟩ := Zi h2
  obtain ⟨base, l3, b3, l3', h7, h8, h9⟩ := Zi h5
  obtain ⟨more, l4, b4, l4', h10, h11, h12⟩ := Zi h8
  obtain ⟨-, h13⟩ := Zt h11
  cases Zj h13
  cases h12; cases h9; cases h6; cases h3
  simp
theorem buildG_key {t : TypeId} {nid : Nat} {x : V} {hp : Zam} {Ef : Eff} {log : List Nat} (h : buildG tab t nid x hp = some (Ef, log)) : nid ∈ Ef.upd.map (·.1) := by
  obtain ⟨e, l1, b1, l1', h1, h2, h3⟩ := Zi h
  obtain ⟨ty, l2, b2, l2', h4, h5, h6⟩ := Zi h2
  obtain ⟨-, h13⟩ := Zt h5
  cases Zj h13
  cases h6; cases h3
  simp
theorem upd_rev (hp : Zam) (l : List (Nat × Option Blk)) (i : Nat) : ZP hp l.reverse i = match look l i with | some b => some b | none => hp i := by
  have key : ∀ (u : List (Nat × Option Blk)) (p : Nat × Option Blk) (hp : Zam), ZP hp (u ++ [p]) i = if i = p.1 then some p.2 else ZP hp u i := by
    intro u
    induction u with
    | nil => intro p hp; rfl
    | cons q u ih => intro p hp; exact ih p _
  induction l with
  | nil => rfl
  | cons p l ih =>
    obtain ⟨j, b⟩ := p
    rw [List.reverse_cons, key, Zz]
    by_cases e : i = j
    · rw [if_pos e, if_pos e]
    · rw [if_neg e, if_neg e]; exact ih
theorem look_append {α : Type} (l r : List (Nat × α)) (i : Nat) : look (l ++ r) i = match look l i with | some b => some b | none => look r i := by
  induction l with
  | nil => rfl
  | cons p l ih =>
    obtain ⟨j, b⟩ := p
    rw [List.cons_append, Zz, Zz]
    by_cases e : i = j
    · rw [if_pos e, if_pos e]
    · rw [if_neg e, if_neg e]; exact ih
theorem mem_keys {α : Type} {l : List (Nat × α)} (k : Nat) : k ∈ l.map (·.1) ↔ look l k ≠ none := by
  induction l with
  | nil => simp [look_nil]
  | cons p l ih =>
    obtain ⟨j, x⟩ := p
    rw [Zz]
    by_cases e : k = j
    · simp [e]
    · rw [if_neg e, ← ih]; simp [e]
theorem okI_rs {w : World} {ok ok' : Nat → Prop} {ρ ρ' : Nat → Option RB} {ks : List Nat} {v : V} {x : Value} (hv : okI ks v = true) (h : Rs tab w ok ρ v x) (hρ : ∀ k ∈ ks, ρ' k = ρ k) (hok : ∀ g, ok g → ok' g) : Rs tab w ok' ρ' v x := by
  have one : ∀ {v : V} {x : Value}, okI1 ks v = true → Rs tab w ok ρ v x → Rs tab w ok' ρ' v x := fun hv h => by
    cases h with
    | tree h => exact .tree (h.keep hok fun _ _ => rfl)
    | sl id T off len sz N a a' cap n h1 h2 h3 h4 h5 h6 => exact .sl id T off len sz N a a' cap n (by rw [hρ id (by simpa [okI1] using hv)]; exact h1) h2 h3 h4 h5 h6
    | bp id off g h1 => exact .bp id off g (by rw [hρ id (by simpa [okI1] using hv)]; exact h1)
    | rp id idx off T sz N g cap h1 h2 => exact .rp id idx off T sz N g cap (by rw [hρ id (by simpa [okI1] using hv)]; exact h1) h2
    | agg _ _ _ _ => cases hv
    | tup _ _ _ _ => cases hv
    | fn _ _ _ _ _ => cases hv
  have all : ∀ {cs : List V} {vals : List Value}, cs.all (okI1 ks) = true → (∀ j, j < cs.length → Rs tab w ok ρ (cs.getD j .dead) (vals.getD j undef)) → ∀ j, j < cs.length → Rs tab w ok' ρ' (cs.getD j .dead) (vals.getD j undef) := fun hv h j hj => by
    refine one ?_ (h j hj)
    rw [ZbT _ _ _ hj]
    exact List.all_eq_true.1 hv _ (List.getElem_mem hj)
  cases h with
  | tree h => exact .tree (h.keep hok fun _ _ => rfl)
  | agg cs vals h1 h2 => exact .agg cs vals h1 (all hv h2)
  | tup cs vals h1 h2 => exact .tup cs vals h1 (all hv h2)
  | fn f cs vals h1 h2 => exact .fn f cs vals h1 (all hv h2)
  | sl id T off len sz N a a' cap n h1 h2 h3 h4 h5 h6 => exact one hv (.sl id T off len sz N a a' cap n h1 h2 h3 h4 h5 h6)
  | bp id off g h1 => exact one hv (.bp id off g h1)
  | rp id idx off T sz N g cap h1 h2 => exact one hv (.rp id idx off T sz N g cap h1 h2)
theorem frame {E : Entry} {M : Mem} (hM : MemOk tab E M) (ks ks0 : List Nat) (hsub : ∀ k, k ∈ ks0 → k ∈ ks) (hcl : ∀ k b, k ∈ ks → M.hp k = some b → okBk ks0 b = true) :
    ∃ (E0 : Entry) (M0 : Mem), M0.w = M.w ∧ MemOk tab E0 M0 ∧ M0.hp = (fun k => if k ∈ ks then M.hp k else none) ∧ (∀ v x, okI ks0 v = true → M.Rs tab E v x → M0.Rs tab E0 v x) ∧
      ∀ M', MemOk tab E0 M' → MemLe E0 M0 M' → (∀ k, k ∉ ks → M'.hp k = none) → ∃ M1, M1.w = M'.w ∧ MemOk tab E M1 ∧ MemLe E M M1 ∧ M1.hp = (fun k => if k ∈ ks then M'.hp k else M.hp k) ∧ ∀ v x, M'.Rs tab E0 v x → M1.Rs tab E v x := by
  have hρs : ∀ k ∈ ks0, (if k ∈ ks then M.ρ k else none) = M.ρ k := fun k hk => if_pos (hsub k hk)
  generalize hE0 : ({ W0 := M.w, okA := okS E M, Ft := ks.flatMap M.top, Fn := ks.flatMap M.nest } : Entry) = E0
  generalize hM0 : ({ w := M.w, ρ := fun k => if k ∈ ks then M.ρ k else none, top := fun k => if k ∈ ks then M.top k else [], nest := fun k => if k ∈ ks then M.nest k else [], hp := fun k => if k ∈ ks then M.hp k else none } : Mem) = M0
  have htop : ∀ k g, g ∈ M0.top k → k ∈ ks ∧ g ∈ M.top k := fun k g hg => by
    rw [← hM0] at hg
    by_cases hk : k ∈ ks
    · simp only [hk, if_true] at hg; exact ⟨hk, hg⟩
    · simp [hk] at hg
  have hnest : ∀ k g, g ∈ M0.nest k → k ∈ ks ∧ g ∈ M.nest k := fun k g hg => by
    rw [← hM0] at hg
    by_cases hk : k ∈ ks
    · simp only [hk, if_true] at hg; exact ⟨hk, hg⟩
    · simp [hk] at hg
  have hboth : ∀ k g, g ∈ M0.top k ++ M0.nest k → k ∈ ks ∧ g ∈ M.top k ++ M.nest k := fun k g hg => by
    rcases List.mem_append.1 hg with hg | hg
    · exact ⟨(htop k g hg).1, List.mem_append_left _ (htop k g hg).2⟩
    · exact ⟨(hnest k g hg).1, List.mem_append_right _ (hnest k g hg).2⟩
  have hw0 : M0.w = M.w := by rw [← hM0]
  have hok : ∀ g, okS E M g → okS E0 M0 g := fun g hg => ⟨.inl (by rw [← hE0]; exact hg), by rw [hw0]; exact hg.2.1, fun id hid => hg.2.2 id (htop id g hid).2⟩
  have hFt : ∀ g, g ∈ E0.Ft → ∃ k ∈ ks, g ∈ M.top k := fun g hg => by rw [← hE0] at hg; simpa using hg
  have hFn : ∀ g, g ∈ E0.Ft ++ E0.Fn → ∃ k ∈ ks, g ∈ M.top k ++ M.nest k := fun g hg => by
    rw [← hE0] at hg
    rcases List.mem_append.1 hg with hg | hg
    · obtain ⟨k, hk, hg⟩ := List.mem_flatMap.1 hg; exact ⟨k, hk, List.mem_append_left _ hg⟩
    · obtain ⟨k, hk, hg⟩ := List.mem_flatMap.1 hg; exact ⟨k, hk, List.mem_append_right _ hg⟩
  have hW : E0.W0 = M.w := by rw [← hE0]
  refine ⟨E0, M0, hw0, ⟨fun id b hb => ?_, fun id hb => ?_, fun id hb => ?_, fun id => ?_, fun id id' hne g hg hg' => ?_, fun id g hg => ?_, fun id g hg => ?_, ?_⟩, by rw [← hM0], fun v x hv h => ?_, fun M' m1 m2 m3 => ?_⟩
  · have hk : id ∈ ks := by
      rw [← hM0] at hb
      by_cases hk : id ∈ ks
      · exact hk
      · simp [hk] at hb
    have hb : M.hp id = some (some b) := by rw [← hM0] at hb; simpa [hk] using hb
    have hB := hM.blocks id b hb
    have hcb := hcl id _ hk hb
    have e1 : M0.ρ id = M.ρ id ∧ M0.top id = M.top id ∧ M0.nest id = M.nest id := by rw [← hM0]; simp [hk]
    rw [e1.1, e1.2.1, e1.2.2, hw0]
    have hcell : ∀ {cs : List V} {f : Nat → Value}, cs.all (okI ks0) = true → (∀ j, j < cs.length → M.Rs tab E (cs.getD j .dead) (f j)) → ∀ j, j < cs.length → Rs tab M.w (okS E0 M0) M0.ρ (cs.getD j .dead) (f j) := fun {cs f} hc h j hj => by
      have hj' := h j hj
      refine okI_rs (ks := ks0) ?_ hj' (fun k hk => by rw [← hM0]; exact hρs k hk) hok
      rw [ZbT _ _ _ hj]
      exact List.all_eq_true.1 hc _ (List.getElem_mem hj)
    cases b with
    | box T cs =>
      obtain ⟨g, c, TT, q1, q2, q3, q4, q5, q6⟩ := hB
      exact ⟨g, c, TT, q1, q2, q3, hcell hcb q4, q5, q6⟩
    | row T own els =>
      obtain ⟨ty, v, q1, q2, q3, q4⟩ := hB
      exact ⟨ty, v, q1, q2, q3.keep hok (fun _ _ => rfl) (fun _ _ => rfl), q4⟩
    | drow T els =>
      obtain ⟨ty, v, n, q1, q2, q3, q4, q5⟩ := hB
      exact ⟨ty, v, n, q1, q2, q3.keep hok (fun _ _ => rfl) (fun _ _ => rfl), q4, q5⟩
    | hrow _ _ _ _ _ => cases hcb
    | grow T cs =>
      obtain ⟨ty, v, xs, q1, q2, q3, q4, q5, q6, q7⟩ := hB
      exact ⟨ty, v, xs, q1, q2, q3, q4, hcell hcb q5, q6, q7⟩
  · rw [← hM0] at hb ⊢
    by_cases hk : id ∈ ks
    · simp only [hk, if_true] at hb ⊢; exact hM.fresh id hb
    · simp [hk]
  · rw [← hM0] at hb ⊢
    by_cases hk : id ∈ ks
    · simp only [hk, if_true] at hb ⊢; exact hM.ended id hb
    · simp [hk]
  · rw [← hM0]
    by_cases hk : id ∈ ks
    · simpa [hk] using hM.nodup id
    · simp [hk]
  · exact hM.apart id id' hne g (hboth id g hg).2 (hboth id' g hg').2
  · obtain ⟨hk, hg⟩ := hboth id g hg
    refine ⟨.inl ?_, by rw [hw0]; exact (hM.mine id g hg).2⟩
    rw [← hE0]
    rcases List.mem_append.1 hg with hg | hg
    · exact List.mem_append_left _ (List.mem_flatMap.2 ⟨id, hk, hg⟩)
    · exact List.mem_append_right _ (List.mem_flatMap.2 ⟨id, hk, hg⟩)
  · obtain ⟨hk, hg⟩ := htop id g hg
    exact .inl (by rw [← hE0]; exact List.mem_flatMap.2 ⟨id, hk, hg⟩)
  · rw [hW, hw0]; exact .refl _ _
  · show Rs tab M0.w (okS E0 M0) M0.ρ v x
    rw [hw0]
    exact okI_rs (ks := ks0) hv h (fun k hk => by rw [← hM0]; exact hρs k hk) hok
  ·
    have hsz : M.w.heap.size ≤ M'.w.heap.size := by have := m1.kept.size; rwa [hW] at this
    have hext : ∀ k, k ∉ ks → ∀ g ∈ M.top k ++ M.nest k, g ∉ E0.Ft ++ E0.Fn ∧ g < M.w.heap.size := fun k hk g hg => ⟨fun hg' => by
      obtain ⟨k', hk', hg'⟩ := hFn g hg'
      exact hM.apart k k' (fun e => hk (e ▸ hk')) g hg hg', (hM.mine k g hg).2⟩
    have hmine : ∀ k g, g ∈ M'.top k ++ M'.nest k → g ∈ E0.Ft ++ E0.Fn ∨ M.w.heap.size ≤ g := fun k g hg => by have := (m1.mine k g hg).1; unfold Entry.mine at this; rwa [hW] at this
    have hemine : ∀ g, g ∈ E0.Ft ++ E0.Fn ∨ M.w.heap.size ≤ g → E.mine g := fun g hg => by
      rcases hg with hg | hg
      · obtain ⟨k, hk, hg⟩ := hFn g hg; exact (hM.mine k g hg).1
      · exact .inr (Nat.le_trans hM.kept.size hg)
    have hsame : ∀ g, g < M.w.heap.size → g ∉ E0.Ft → M'.w.heap[g]? = M.w.heap[g]? := fun g h1 h2 => by have := m1.kept.block g (by rw [hW]; exact h1) h2; rwa [hW] at this
    have happ : ∀ k k', k ∉ ks → ∀ g, g ∈ M.top k ++ M.nest k → g ∉ M'.top k' ++ M'.nest k' := fun k k' hk g hg hg' => by
      obtain ⟨q1, q2⟩ := hext k hk g hg
      rcases hmine k' g hg' with h | h
      · exact q1 h
      · omega
    have hfresh : ∀ k, k ∉ ks → M'.ρ k = none ∧ M'.top k = [] ∧ M'.nest k = [] := fun k hk => m1.fresh k (m3 k hk)
    generalize hM1 : ({ w := M'.w, ρ := fun k => if k ∈ ks then M'.ρ k else M.ρ k, top := fun k => if k ∈ ks then M'.top k else M.top k, nest := fun k => if k ∈ ks then M'.nest k else M.nest k, hp := fun k => if k ∈ ks then M'.hp k else M.hp k } : Mem) = M1
    have hw1 : M1.w = M'.w := by rw [← hM1]
    have hin : ∀ k, k ∈ ks → M1.ρ k = M'.ρ k ∧ M1.top k = M'.top k ∧ M1.nest k = M'.nest k ∧ M1.hp k = M'.hp k := fun k hk => by rw [← hM1]; simp [hk]
    have hout : ∀ k, k ∉ ks → M1.ρ k = M.ρ k ∧ M1.top k = M.top k ∧ M1.nest k = M.nest k ∧ M1.hp k = M.hp k := fun k hk => by rw [← hM1]; simp [hk]
    have hρ' : ∀ k rb, M'.ρ k = some rb → M1.ρ k = some rb := fun k rb h => by
      by_cases hk : k ∈ ks
      · rw [(hin k hk).1]; exact h
      · rw [(hfresh k hk).1] at h; cases h
    have hρ : ∀ k rb, M.ρ k = some rb → M1.ρ k = some rb := fun k rb h => by
      by_cases hk : k ∈ ks
      · rw [(hin k hk).1]; exact m2.ρ k rb (by rw [← hM0]; simpa [hk] using h)
      · rw [(hout k hk).1]; exact h
    have hok' : ∀ g, okS E0 M' g → okS E M1 g := fun g ⟨h1, h2, h3⟩ => by
      have hm : (okS E M g ∨ g ∈ E0.Ft ++ E0.Fn) ∨ M.w.heap.size ≤ g := by
        rcases h1 with h | h | h
        · exact .inl (.inl (by rw [← hE0] at h; exact h))
        · exact .inl (.inr h)
        · rw [hW] at h; exact .inr h
      refine ⟨?_, by rw [hw1]; exact h2, fun id hid => ?_⟩
      · rcases hm with (h | h) | h
        · exact h.1
        · exact .inr (hemine g (.inl h))
        · exact .inr (hemine g (.inr h))
      · by_cases hk : id ∈ ks
        · rw [(hin id hk).2.1] at hid; exact h3 id hid
        · rw [(hout id hk).2.1] at hid
          obtain ⟨q1, q2⟩ := hext id hk g (List.mem_append_left _ hid)
          rcases hm with (h | h) | h
          · exact h.2.2 id hid
          · exact q1 h
          · omega
    have hle : MemLe E M M1 := by
      refine ⟨hρ, fun g hg => ?_, fun g hg => ?_⟩
      · exact hok' g (m2.ok g (hok g hg))
      · rw [hw1, m2.same g (hok g hg), hw0]
    refine ⟨M1, hw1, ⟨fun id b hb => ?_, fun id hb => ?_, fun id hb => ?_, fun id => ?_, fun id id' hne g hg hg' => ?_, fun id g hg => ?_, fun id g hg => ?_, ?_⟩, hle, by rw [← hM1], fun v x h => by
      have := h.mono (w' := M1.w) hρ' hok' fun _ _ => by rw [hw1]
      exact this⟩
    · by_cases hk : id ∈ ks
      · obtain ⟨q1, q2, q3, q4⟩ := hin id hk
        rw [q4] at hb
        rw [q1, q2, q3]
        exact (m1.blocks id b hb).keep hρ' hok' (fun _ _ => by rw [hw1]) fun _ _ => by rw [hw1]
      · obtain ⟨q1, q2, q3, q4⟩ := hout id hk
        rw [q4] at hb
        rw [q1, q2, q3]
        refine (hM.blocks id b hb).keep hρ hle.ok hle.same fun g hg => ?_
        obtain ⟨r1, r2⟩ := hext id hk g hg
        rw [hw1]
        exact hsame g r2 fun h => r1 (List.mem_append_left _ h)
    · by_cases hk : id ∈ ks
      · obtain ⟨q1, q2, q3, q4⟩ := hin id hk
        rw [q4] at hb; rw [q1, q2, q3]; exact m1.fresh id hb
      · obtain ⟨q1, q2, q3, q4⟩ := hout id hk
        rw [q4] at hb; rw [q1, q2, q3]; exact hM.fresh id hb
    · by_cases hk : id ∈ ks
      · obtain ⟨q1, q2, q3, q4⟩ := hin id hk
        rw [q4] at hb; rw [q2, q3]; exact m1.ended id hb
      · obtain ⟨q1, q2, q3, q4⟩ := hout id hk
        rw [q4] at hb; rw [q2, q3]; exact hM.ended id hb
    · by_cases hk : id ∈ ks
      · rw [(hin id hk).2.1, (hin id hk).2.2.1]; exact m1.nodup id
      · rw [(hout id hk).2.1, (hout id hk).2.2.1]; exact hM.nodup id
    · by_cases hk : id ∈ ks <;> by_cases hk' : id' ∈ ks
      · rw [(hin id hk).2.1, (hin id hk).2.2.1] at hg; rw [(hin id' hk').2.1, (hin id' hk').2.2.1] at hg'
        exact m1.apart id id' hne g hg hg'
      · rw [(hin id hk).2.1, (hin id hk).2.2.1] at hg; rw [(hout id' hk').2.1, (hout id' hk').2.2.1] at hg'
        exact happ id' id hk' g hg' hg
      · rw [(hout id hk).2.1, (hout id hk).2.2.1] at hg; rw [(hin id' hk').2.1, (hin id' hk').2.2.1] at hg'
        exact happ id id' hk g hg hg'
      · rw [(hout id hk).2.1, (hout id hk).2.2.1] at hg; rw [(hout id' hk').2.1, (hout id' hk').2.2.1] at hg'
        exact hM.apart id id' hne g hg hg'
    · by_cases hk : id ∈ ks
      · rw [(hin id hk).2.1, (hin id hk).2.2.1] at hg
        exact ⟨hemine g (hmine id g hg), by rw [hw1]; exact (m1.mine id g hg).2⟩
      · rw [(hout id hk).2.1, (hout id hk).2.2.1] at hg
        exact ⟨(hM.mine id g hg).1, by rw [hw1]; exact Nat.lt_of_lt_of_le (hM.mine id g hg).2 hsz⟩
    · by_cases hk : id ∈ ks
      · rw [(hin id hk).2.1] at hg
        rcases m1.mineT id g hg with h | h
        · obtain ⟨k, _, h⟩ := hFt g h; exact hM.mineT k g h
        · rw [hW] at h; exact .inr (Nat.le_trans hM.kept.size h)
      · rw [(hout id hk).2.1] at hg; exact hM.mineT id g hg
    · rw [hw1]
      have hk := m1.kept
      rw [hW] at hk
      refine ⟨hk.os.trans hM.kept.os, hk.tape.trans hM.kept.tape, hk.output.trans hM.kept.output, Nat.le_trans hM.kept.size hk.size, fun g hg hF => ?_⟩
      refine (hk.block g (Nat.lt_of_lt_of_le hg hM.kept.size) fun h => ?_).trans (hM.kept.block g hg hF)
      obtain ⟨k, _, h⟩ := hFt g h
      rcases hM.mineT k g h with h | h
      · exact hF h
      · omega
theorem opG_eff {cfg : Cfg} (hT : Zv P cfg.tab) (hS : ZaV P cfg.tab cfg.sums) {fns : Fns} (hf : FnsOk P fns) {E : Entry} {rec : RunC} (hrec : ∀ E, RecOk P cfg.tab E rec) {dr : Bool} {o : Oper} {s s1 : St} {r : Rec} (h : opG cfg fns rec dr o s = some (s1, r))
    (hfr : ∀ id, s.nid ≤ id → s.heap id = none) : EffX P cfg.tab E o s s1 r := by
  have fresh1 : ∀ {Ef : Eff} {log : List Nat}, s1.F = Zat s.F ⟨o.dst, Ef.v, Ef.upd, log⟩ → s1.nid = Zcc s.nid Ef.upd → ∀ id, s1.nid ≤ id → s1.heap id = none := fun {Ef log} h1 h2 id hid => by
    have := fresh_app (F := s.F) (e := ⟨o.dst, Ef.v, Ef.upd, log⟩) hfr id (by rw [h2] at hid; exact hid)
    have e : s1.heap = s1.F.hp := rfl
    rw [e, h1]; exact this
  have ZaS : plainG cfg o s = some (s1, r) → EffX P cfg.tab E o s s1 r := fun h => by
    obtain ⟨Ef, h1, h2, h3, h4, h5, h6⟩ := rmG_inv h
    refine ⟨Ef, h2, h3, h6, fresh1 h2 h5, fun F' hx hlog _ hmo M a hM hhp hsl Q => ?_⟩
    refine op_sound hT hS hM hsl (nid := s.nid) (log := r.log) ?_ (fun id hid hge => ?_) Q
    · rw [effOp_congr cfg s.nid o hx, hhp]
      exact effOp_local _ _ _ _ _ _ _ _ h1 hlog
    · rw [hhp, hmo id (by rw [h3]; exact hid)]; exact hfr id hge
  have stepped : ∀ (m : RM Eff), Local m → rmG o s m = some (s1, r) → (∀ F' : Fs, (∀ x ∈ o.op.operands, ev F'.sl x = s.ev x) → ∀ (M : Mem) (a : Act), MemOk cfg.tab E M → Slots cfg.tab E M F'.sl a → M.hp s.nid = none → ∀ Ef log, m M.hp = some (Ef, log) →
      ∃ M' val, (execOp a.eval o).run P M.w = .ok (.value val) M'.w ∧ StepOk cfg.tab E M Ef val M') → (∀ Ef log, m s.heap = some (Ef, log) → s.nid ∈ Ef.upd.map (·.1)) → EffX P cfg.tab E o s s1 r := fun m hl h hm hk => by
    obtain ⟨Ef, h1, h2, h3, h4, h5, h6⟩ := rmG_inv h
    refine ⟨Ef, h2, h3, h6, fresh1 h2 h5, fun F' hx hlog _ hmo M a hM hhp hsl Q => ?_⟩
    have hn : M.hp s.nid = none := by rw [hhp, hmo _ (by rw [h3]; exact hk _ _ h1)]; exact hfr _ (Nat.le_refl _)
    exact ZcQ (hm F' hx M a hM hsl hn Ef r.log (by rw [hhp]; exact hl _ _ _ _ h1 hlog))
  unfold opG at h
  split at h
  · rename_i c hop
    split at h
    · rename_i f hcal
      split at h
      · rename_i g caps hg
        split at h
        · rename_i fn hfn
          obtain ⟨f1, f2, f3⟩ := hf g fn hfn
          unfold callG at h
          split at h
          · cases h
          · rename_i cd hb
            rw [closedF_eq] at h
            cases hle : (Nat.ble (c.args.toList.map (sft s.ev) ++ caps).length fn.ntmps && (!dr || closedG s.hp (c.args.toList.map (sft s.ev) ++ caps))) with
            | false => rw [hle] at h; cases h
            | true =>
            rw [hle, cond_true] at h
            rw [Bool.and_eq_true] at hle
            obtain ⟨hle, hcl⟩ := hle
            have hlen := Nat.le_of_ble_eq_true hle
            split at h
            · cases h
            · rename_i e s' hne hr
              split at h
              · rename_i vs l cs hres
                obtain ⟨hcs, h⟩ := Zc6 h
                simp only [Option.some.injEq, Prod.mk.injEq] at h
                obtain ⟨rfl, rfl⟩ := h
                have hcall : ∀ F' : Fs, (∀ x ∈ o.op.operands, ev F'.sl x = s.ev x) → ∀ (M : Mem) (a : Act), MemOk cfg.tab E M → M.hp = F'.hp → Slots cfg.tab E M F'.sl a → ∀ (E0 : Entry) (M0 : Mem), M0.w = M.w → MemOk cfg.tab E0 M0 → M0.hp = s.heap → (∀ v x, (dr = true → okI (s.hp.map (·.1)) v = true) → M.Rs cfg.tab E v x → M0.Rs cfg.tab E0 v x) →
                    ∀ K : Act → World → Prop, (∀ M' val, MemOk cfg.tab E0 M' → MemLe E0 M0 M' → M'.hp = s'.heap → M'.Rs cfg.tab E0 (tupOf vs) val → K (a.put o.dst val) M'.w) → ∀ Q, o.wp P a M.w K Q := by
                  intro F' hx M a hM hhp hsl E0 M0 hw0 hM0 hhp0 hrs0 K hK Q
                  have hsf : ∀ x ∈ o.op.operands, sft (ev F'.sl) x = sft s.ev x := fun x hx' => by unfold sft; rw [hx x hx']
                  have hop' : ∀ x, x ∈ c.operands → x ∈ o.op.operands := fun x hx' => by rw [hop]; exact hx'
                  have hfv := Zaj hsl f
                  rw [hsf f (hop' f (by simp [Call.operands, hcal])), hg] at hfv
                  obtain ⟨vals, hfe, hl, hj⟩ := hfv.fn_inv
                  have hra := (args_spec hsl c.args.toList).append (ys := caps) (us := vals) ⟨hl, hj⟩
                  have hargs : c.args.toList.map (sft (ev F'.sl)) = c.args.toList.map (sft s.ev) := List.map_congr_left fun x hx' => hsf x (hop' x (by simp [Call.operands, hcal]; exact .inr (by simpa using hx')))
                  rw [hargs] at hra
                  have hra : RsL cfg.tab M0.w (okS E0 M0) M0.ρ (c.args.toList.map (sft s.ev) ++ caps) (c.args.toList.map a.eval ++ vals) := ⟨hra.1, fun j hj => hrs0 _ _ (fun hd => by
                    rw [hd, Bool.not_true, Bool.false_or, closedG, Bool.and_eq_true, List.all_eq_true, List.all_eq_true] at hcl
                    rw [ZbT _ _ _ hj]
                    exact hcl.2 _ (List.getElem_mem hj)) (hra.2 j hj)⟩
                  generalize hvs : c.args.toList.map a.eval ++ vals = avs at hra
                  generalize has : c.args.toList.map (sft s.ev) ++ caps = aw at *
                  have hrun : (execOp a.eval o).run P M.w = .ok (.enter g avs.toArray) M.w := by
                    simp only [execOp, hop, resolve, hcal, Deferred.ofValue, hfe, Sem.run_bind, Sem.run_pure, Result.andThen_ok, invoke]
                    rw [run_enter ⟨fn, f1, f2, by rw [hb]; rfl⟩]
                    rw [← hvs]; simp
                  simp only [Oper.wp, hrun, Oper.upon]
                  refine calls_of_wp f1 hb ?_
                  have hsz : (avs.toArray ++ Array.replicate (fn.ntmps - avs.toArray.size) undef).size = fn.ntmps := by
                    have := hra.1
                    simp; omega
                  have hR0 : Rel cfg.tab E0 fn.ntmps [] M0 { sl := ZbP 0 aw, hp := s.hp, nid := s.nid, lent := [] } { tmps := avs.toArray ++ Array.replicate (fn.ntmps - avs.toArray.size) undef, defers := [] } := by
                    refine ⟨⟨hM0, .refl _ _, hhp0, fun u => ?_⟩, .nil, hfr, hsz, rfl⟩
                    have : (St.F { sl := ZbP 0 aw, hp := s.hp, nid := s.nid, lent := [] }).sl u = aw.getD u .dead := by
                      show (look (ZbP 0 _) u).getD .dead = _
                      rw [ZdM]; simp
                    rw [this]
                    by_cases hu : u < aw.length
                    · have hv := hra.2 u hu
                      have he : ({ tmps := avs.toArray ++ Array.replicate (fn.ntmps - avs.toArray.size) undef, defers := [] } : Act).eval (.tmp u) = avs.getD u undef := by
                        have hl : u < avs.length := by rw [hra.1]; exact hu
                        simp [Act.eval, Array.getElem?_append, hl, List.getD]
                      rw [he]; exact hv
                    · have : aw.getD u .dead = .dead := by simp [List.getD, List.getElem?_eq_none (Nat.le_of_not_lt hu)]
                      rw [this]; exact .tree (.dead _)
                  rw [← hw0]
                  refine (hrec E0 cd _ e s' hr).2 fn.ntmps [] (f3 cd hb) M0 _ hR0 _ fun M' a' hR' hle' => ?_
                  have hpost : a'.defers = [] ∧ ∃ v, (results fn a'.tmps).run P M'.w = .ok v M'.w ∧ K (a.put o.dst v) M'.w := by
                    refine ⟨hR'.defers, ?_⟩
                    have hq : Zdu cfg.tab s' fn.results.toList M'.hp = some (vs, l) := by
                      rw [hR'.rel.hp]; exact rm_at.2 ⟨cs, hres, hcs⟩
                    obtain ⟨val, k1, k2⟩ := results_run hT hR'.rel.mem hR'.rel.slots hq
                    exact ⟨val, k1, hK M' val hR'.rel.mem hle' hR'.rel.hp k2⟩
                  cases e with
                  | normal => exact hpost
                  | ret => exact hpost
                  | exit id => exact (hne id rfl).elim
                have hkeys : ∃ l, s'.hp = l ++ s.hp := (hrec E cd _ e s' hr).1.1
                obtain ⟨nl, hnl⟩ := hkeys
                have htk : s'.hp.take (s'.hp.length - s.hp.length) = nl := by rw [hnl, List.length_append, Nat.add_sub_cancel]; simp
                rw [htk]
                have hup : ∀ i, ZP s.heap nl.reverse i = s'.heap i := fun i => by
                  rw [upd_rev]; show _ = look s'.hp i
                  rw [hnl, look_append]; cases look nl i <;> rfl
                have hup' : ZP s.heap nl.reverse = s'.heap := funext hup
                refine ⟨⟨tupOf vs, nl.reverse⟩, ?_, rfl, rfl, (hrec E cd _ e s' hr).1.2 hfr, fun F' hx hlg hall hmo M a hM hhp hsl Q => ?_⟩
                · simp only [Zat, Fs.mk.injEq, St.F]
                  refine ⟨?_, hup'.symm⟩
                  funext t
                  cases hdst : o.dst with
                  | none => simp only [setS]; rfl
                  | some d =>
                    show (look ((d, tupOf vs) :: s.sl) t).getD .dead = _
                    simpa [setS] using Zdv s d (tupOf vs) t
                · have same : F'.hp = s.heap → o.wp P a M.w (OpOk cfg.tab E M o a ⟨tupOf vs, nl.reverse⟩) Q := fun hF' => by
                    refine hcall F' hx M a hM hhp hsl E M rfl hM (hhp.trans hF') (fun _ _ _ h => h) _ (fun M' val k1 k2 k3 k4 => ?_) Q
                    exact ⟨M', val, rfl, rfl, k1, k2, by rw [k3, hhp, hF', hup'], k4⟩
                  cases hd : dr with
                  | false => exact same (hall (by rw [hd]; rfl))
                  | true =>
                    have hcl' := hcl
                    rw [hd, Bool.not_true, Bool.false_or, closedG, Bool.and_eq_true, List.all_eq_true, List.all_eq_true] at hcl'
                    have hks : ∀ k, k ∈ s'.hp.map (·.1) ↔ look s'.hp k ≠ none := fun k => mem_keys k
                    have hmo' : ∀ k, k ∈ s'.hp.map (·.1) → M.hp k = s.heap k := fun k hk => by
                      rw [hhp]
                      rw [hnl, List.map_append, List.mem_append] at hk
                      exact hk.elim (fun hk => hmo k (by simpa using hk)) fun hk => hlg k hk
                    have hsub : ∀ k, k ∈ s.hp.map (·.1) → k ∈ s'.hp.map (·.1) := fun k hk => by rw [hnl, List.map_append]; exact List.mem_append_right _ hk
                    have hnone : ∀ k, k ∉ s'.hp.map (·.1) → s.heap k = none := fun k hk => by
                      cases hq : s.heap k with
                      | none => rfl
                      | some b => exact absurd (hsub k ((mem_keys k).2 (by show s.heap k ≠ none; rw [hq]; simp))) hk
                    obtain ⟨E0, M0, g1, g2, g3, g4, g5⟩ := frame hM (s'.hp.map (·.1)) (s.hp.map (·.1)) hsub fun k b hk hb => by
                      rw [hmo' k hk] at hb
                      exact hcl'.1 _ (look_mem hb)
                    refine hcall F' hx M a hM hhp hsl E0 M0 g1 g2 ?_ (fun v x hv h => g4 v x (hv hd) h) _ (fun M' val k1 k2 k3 k4 => ?_) Q
                    · rw [g3]; funext k
                      split
                      · rename_i hk; exact hmo' k hk
                      · rename_i hk; exact (hnone k hk).symm
                    · obtain ⟨M1, q1, q2, q3, q4, q5⟩ := g5 M' k1 k2 (fun k hk => by
                        rw [k3]
                        cases hq : look s'.hp k with
                        | none => exact hq
                        | some b => exact absurd ((hks k).2 (by rw [hq]; simp)) hk)
                      refine ⟨M1, val, rfl, q1, q2, q3, ?_, q5 _ _ k4⟩
                      rw [q4]; funext k
                      split
                      · rename_i hk
                        rw [k3, ← hup k, upd_rev, upd_rev, hmo' k hk]
                      · rename_i hk
                        rw [upd_rev]
                        cases hq : look nl k with
                        | none => rfl
                        | some b => exact absurd (by rw [hnl, List.map_append]; exact List.mem_append_left _ ((mem_keys k).2 (by rw [hq]; simp))) hk
              · cases h
            · cases h
        · exact ZaS h
      · cases h
    · rename_i hcal
      split at h
      · rename_i t t2 x y ht hx
        cases hp : isPtr cfg.tab t with
        | false => rw [hp] at h; exact ZaS h
        | true =>
          rw [hp] at h
          refine stepped _ (Local.appendG _ _ _ _ _ _) h (fun F' hxs M a hM hsl hn Ef log he => ?_) fun Ef log he => appendG_key he
          have hin : ∀ z ∈ c.args.toList, sft (ev F'.sl) z = sft s.ev z := fun z hz => by
            unfold sft; rw [hxs z (by rw [hop]; simp [Op.operands, Call.operands, hcal]; simpa using hz)]
          have e1 : c.argTypes = #[t, t2] := by rw [← ht]
          have e2 : c.args = #[x, y] := by rw [← hx]
          obtain ⟨M', val, k1, k2⟩ := appendG_sound (ot := o.type) hT hM hn (by rw [← hin x (by simp [e2])]; exact Zaj hsl x) (by rw [← hin y (by simp [e2])]; exact Zaj hsl y) he
          refine ⟨M', val, ?_, k2⟩
          simp only [execOp, hop, resolve, hcal, Sem.run_bind, Sem.run_pure, Result.andThen_ok, invoke, e1, e2]
          refine ZaT ?_
          simpa using k1
      · cases h
    · exact ZaS h
  · rename_i t n pp hop
    cases hp : isPtr cfg.tab t with
    | false => rw [hp] at h; exact ZaS h
    | true =>
      rw [hp, cond_true] at h
      split at h
      · rename_i x hpp
        refine stepped _ (Local.buildG _ _ _ _) h (fun F' hxs M a hM hsl hn Ef log he => ?_) fun Ef log he => buildG_key he
        have e1 : pp = #[(0, x)] := by rw [← hpp]
        have hin : sft (ev F'.sl) x = sft s.ev x := by unfold sft; rw [hxs x (by rw [hop]; simp [Op.operands, e1])]
        obtain ⟨M', val, k1, k2⟩ := buildG_sound hT hM hn (by rw [← hin]; exact Zaj hsl x) he
        refine ⟨M', val, ?_, k2⟩
        simp only [execOp, hop, e1]
        refine ZaT ?_
        simpa using k1
      · cases h
  · exact ZaS h
def EntX (P : Program) (tab : Tab) (E : Entry) (ops : Array Oper) (o : Oper) (Fi : Fs) (e : Ent) (r : Rec) : Prop :=
  e.dst = o.dst ∧ r.mods = e.mods ∧ ∀ i, ops[i]? = some o → ∀ F' : Fs, (∀ t ∈ o.looksAt ops, F'.sl t = Fi.sl t) → (∀ k ∈ r.log, F'.hp k = Fi.hp k) → (r.all = true → F'.hp = Fi.hp) → (∀ k ∈ e.mods, F'.hp k = Fi.hp k) →
    ∀ (ρ0 M : Mem) (a : Act), RelF tab E ρ0 M F' a → (∀ d, o.dst = some d → d < a.tmps.size) → ∀ (Q : Exit → Act → World → Prop) (K : Act → World → Prop),
      (∀ M' v, RelF tab E ρ0 M' (Zat F' e) (a.put o.dst v) → (a.put o.dst v).tmps.size = a.tmps.size → (a.put o.dst v).defers = a.defers → K (a.put o.dst v) M'.w) → wpOp P ops Q i K a M.w
def InvX (P : Program) (tab : Tab) (E : Entry) (ops : Array Oper) (l : List Oper) (s s' : St) (tr tr' : List Rec) : Prop :=
  ∃ (es : List Ent) (rs : List Rec), tr' = rs.reverse ++ tr ∧ es.length = l.length ∧ rs.length = l.length ∧ s'.F = Z5 s.F es ∧ s'.lent = s.lent ∧ (∀ id, s'.nid ≤ id → s'.heap id = none) ∧
    ∀ (i : Nat) (o : Oper), l[i]? = some o → ∃ e r, es[i]? = some e ∧ rs[i]? = some r ∧ EntX P tab E ops o (Z5 s.F (es.take i)) e r
theorem opsG_inv {cfg : Cfg} (hT : Zv P cfg.tab) (hS : ZaV P cfg.tab cfg.sums) {fns : Fns} (hf : FnsOk P fns) {E : Entry} {rec : RunC} (hrec : ∀ E, RecOk P cfg.tab E rec) {dr : Bool} {ops : Array Oper} :
    ∀ (l : List Oper) (s s' : St) (tr tr' : List Rec), opsG cfg fns rec dr ops.toList l s tr = some (s', tr') → (∀ id, s.nid ≤ id → s.heap id = none) →
      InvX P cfg.tab E ops l s s' tr tr'
  | [], s, s', tr, tr', h, hfr => by
    cases h
    exact ⟨[], [], rfl, rfl, rfl, rfl, rfl, hfr, fun i o hi => by simp at hi⟩
  | o :: l, s, s', tr, tr', h, hfr => by
    have hsz : ∀ (a : Act) v, (a.put o.dst v).tmps.size = a.tmps.size ∧ (a.put o.dst v).defers = a.defers := fun a v => by cases o.dst <;> simp [Act.put]
    have go : ∀ (e : Ent) (r : Rec) (s1 : St), s1.F = Zat s.F e → s1.lent = s.lent → (∀ id, s1.nid ≤ id → s1.heap id = none) → EntX P cfg.tab E ops o s.F e r → opsG cfg fns rec dr ops.toList l s1 (r :: tr) = some (s', tr') → InvX P cfg.tab E ops (o :: l) s s' tr tr' := fun e r s1 h1 h2 h3 h4 h5 => by
      obtain ⟨es, rs, k1, k2, k3, k4, k5, k6, k7⟩ := opsG_inv hT hS hf hrec l s1 s' _ _ h5 h3
      refine ⟨e :: es, r :: rs, by simp [k1], by simp [k2], by simp [k3], by rw [k4, h1]; rfl, k5.trans h2, k6, fun i o' hi => ?_⟩
      cases i with
      | zero => simp at hi; subst hi; exact ⟨e, r, rfl, rfl, h4⟩
      | succ i =>
        obtain ⟨e', r', q1, q2, q3⟩ := k7 i o' (by simpa using hi)
        rw [h1] at q3
        exact ⟨e', r', by simpa using q1, by simpa using q2, q3⟩
    have wcong : ∀ F' : Fs, (∀ t ∈ o.looksAt ops, F'.sl t = s.F.sl t) → Za8 ops.toList F' o = Za8 ops.toList s.F o := fun F' hsl => by
      unfold Za8
      cases hg : o.guard with
      | none => rfl
      | some gw =>
        obtain ⟨g, want⟩ := gw
        simp only []
        cases ht : (ops.toList[g]?).bind (·.dst) with
        | none => rfl
        | some t =>
          simp only []
          rw [hsl t]
          unfold Oper.looksAt
          rw [hg]
          refine List.mem_append_right _ ?_
          simp only []
          rw [Array.getElem?_toList] at ht
          simp [ht]
    have run : Za8 ops.toList s.F o = some true → (match opG cfg fns rec dr o s with | some (s, x) => opsG cfg fns rec dr ops.toList l s (x :: tr) | none => none) = some (s', tr') → InvX P cfg.tab E ops (o :: l) s s' tr tr' := fun hw h => by
      split at h
      · rename_i s1 r h1
        obtain ⟨Ef, q1, q2, q3, q4, q5⟩ := opG_eff hT hS hf hrec h1 hfr
        refine go ⟨o.dst, Ef.v, Ef.upd, r.log⟩ r s1 q1 q3 q4 ⟨rfl, q2, fun i ho F' hsl hlog hall hmo ρ0 M a hR hd Q K hK => ?_⟩ h
        unfold wpOp
        simp only [ho]
        rw [wanted_of hR (ops := ops) (o := o) true ((wcong F' hsl).trans hw), if_pos rfl]
        refine .inl (Oper.wp_mono (K := OpOk cfg.tab E M o a Ef) ?_ (q5 F' (fun x hx => ?_) hlog hall (fun k hk => hmo k (by rw [q2] at hk; exact hk)) M a hR.mem hR.hp hR.slots Q))
        · rintro a' w' ⟨M', val, rfl, rfl, hst⟩
          refine hK M' val ⟨hst.mem, hR.le.trans hst.le, ?_, ?_⟩ (hsz a _).1 (hsz a _).2
          · rw [hst.hp, hR.hp]; rfl
          · exact Slots.put (fun t => hst.le.rs (hR.slots t)) hd hst.val
        · cases x with
          | tmp t => exact hsl t (List.mem_append_left _ (List.mem_filterMap.2 ⟨.tmp t, by simpa using hx, rfl⟩))
          | _ => rfl
      · cases h
    have skip : Za8 ops.toList s.F o = some false → opsG cfg fns rec dr ops.toList l (s.put o.dst .sk) (⟨[], [], false⟩ :: tr) = some (s', tr') → InvX P cfg.tab E ops (o :: l) s s' tr tr' := fun hw h => by
      refine go ⟨o.dst, .sk, [], []⟩ ⟨[], [], false⟩ _ (put_F s o.dst .sk) (by cases o.dst <;> rfl) (by cases o.dst <;> exact hfr) ⟨rfl, rfl, fun i ho F' hsl hlog hall hmo ρ0 M a hR hd Q K hK => ?_⟩ h
      unfold wpOp
      simp only [ho]
      rw [wanted_of hR (ops := ops) (o := o) false ((wcong F' hsl).trans hw), if_neg (by simp)]
      exact hK M undef ⟨hR.mem, hR.le, by rw [hR.hp]; rfl, Slots.put hR.slots hd (.tree .sk)⟩ (hsz a _).1 (hsz a _).2
    unfold opsG at h
    simp only [opF_eq] at h
    split at h
    · rename_i hg
      exact run (by simp [Za8, hg]) h
    · rename_i j want hg
      split at h
      · cases h
      · rename_i t ht
        split at h
        · rename_i b hb
          have hw : Za8 ops.toList s.F o = some (b == want) := by
            have : s.F.sl t = .bool b := hb
            unfold Za8; rw [hg]; simp only []; rw [ht]; simp only [this]
          cases hbw : (b == want) with
          | true => rw [hbw] at h hw; exact run hw h
          | false => rw [hbw] at h hw; exact skip hw h
        · rename_i hb
          exact skip (by
            have : s.F.sl t = .sk := hb
            unfold Za8; rw [hg]; simp only []; rw [ht]; simp only [this]) h
        · cases h
theorem seqX {E : Entry} {ops : Array Oper} {ρ0 : Mem} {F : Fs} {es : List Ent} {N : Nat} {D : List Deferred} {Q : Exit → Act → World → Prop} (hX : ∀ (i : Nat) (o : Oper), ops[i]? = some o → ∃ e r, es[i]? = some e ∧ EntX P tab E ops o (Z5 F (es.take i)) e r) (hlen : es.length = ops.size) (hd : ∀ o ∈ ops.toList, ∀ d, o.dst = some d → d < N)
    (hK : ∀ M' a', RelF tab E ρ0 M' (Z5 F es) a' → a'.tmps.size = N → a'.defers = D → Q .normal a' M'.w) :
    ∀ (m k : Nat), k + m = ops.size → ∀ (M : Mem) (a : Act), RelF tab E ρ0 M (Z5 F (es.take k)) a → a.tmps.size = N → a.defers = D → wpOps P ops Q (List.range' k m) a M.w
  | 0, k, hk, M, a, hR, h1, h2 => by
    rw [List.take_of_length_le (by omega)] at hR
    exact hK M a hR h1 h2
  | m + 1, k, hk, M, a, hR, h1, h2 => by
    rw [List.range'_succ, wpOps_cons]
    have hkl : k < ops.size := by omega
    have ho : ops[k]? = some ops[k] := Array.getElem?_eq_getElem hkl
    obtain ⟨e, r, q1, q2, q3, q4⟩ := hX k _ ho
    refine q4 k ho _ (fun _ _ => rfl) (fun _ _ => rfl) (fun _ => rfl) (fun _ _ => rfl) ρ0 M a hR (fun d hd' => by rw [h1]; exact hd _ (by simp) d hd') Q _ fun M' v hR' h3 h4 => ?_
    refine seqX hX hlen hd hK m (k + 1) (by omega) M' _ ?_ (h3.trans h1) (h4.trans h2)
    have : es.take (k + 1) = es.take k ++ [e] := by rw [List.take_add_one, q1]; rfl
    rw [this, Z5, List.foldl_append]
    exact hR'
theorem addAll_keys (u : List (Nat × Option Blk)) : ∀ h : List (Nat × Option Blk), ∃ l, addAll h u = l ++ h := by
  induction u with
  | nil => exact fun h => ⟨[], rfl⟩
  | cons p u ih => exact fun h => by obtain ⟨l, hl⟩ := ih (p :: h); exact ⟨l ++ [p], by rw [addAll, hl]; simp⟩
theorem opG_keys {cfg : Cfg} {fns : Fns} {rec : RunC} (hrec : ∀ c s e s', rec c s = some (e, s') → Keys s s') {dr : Bool} {o : Oper} {s s1 : St} {r : Rec} (h : opG cfg fns rec dr o s = some (s1, r)) : Keys s s1 := by
  have hrm : ∀ {m : RM Eff}, rmG o s m = some (s1, r) → Keys s s1 := fun h => by
    unfold rmG at h
    split at h
    · obtain ⟨_, h⟩ := Zc6 h
      cases h
      exact addAll_keys _ _
    · cases h
  have hpl : plainG cfg o s = some (s1, r) → Keys s s1 := fun h => hrm h
  unfold opG at h
  split at h
  · split at h
    · split at h
      · split at h
        · unfold callG at h
          split at h
          · cases h
          · cases hle : (Nat.ble (_ : Nat) (_ : Nat) && (_ : Bool)) <;> rw [hle] at h
            · cases h
            · rw [cond_true] at h
              split at h
              · cases h
              · rename_i hr
                split at h
                · obtain ⟨_, h⟩ := Zc6 h
                  cases h
                  obtain ⟨l, hl⟩ := hrec _ _ _ _ hr
                  exact ⟨l, hl⟩
                · cases h
              · cases h
        · exact hpl h
      · cases h
    · split at h
      · cases hp : isPtr cfg.tab _ <;> rw [hp] at h
        · exact hpl h
        · exact hrm h
      · cases h
    · exact hpl h
  · cases hp : isPtr cfg.tab _ <;> rw [hp] at h
    · exact hpl h
    · rw [cond_true] at h
      split at h
      · exact hrm h
      · cases h
  · exact hpl h
theorem Keys.trans {s s1 s2 : St} (h : Keys s s1) (k : Keys s1 s2) : Keys s s2 := by
  obtain ⟨l, h⟩ := h; obtain ⟨l', k⟩ := k
  exact ⟨l' ++ l, by rw [k, h, List.append_assoc]⟩
theorem opsG_keys {cfg : Cfg} {fns : Fns} {rec : RunC} (hrec : ∀ c s e s', rec c s = some (e, s') → Keys s s') {dr : Bool} {all : List Oper} : ∀ (l : List Oper) (s s' : St) (tr tr' : List Rec), opsG cfg fns rec dr all l s tr = some (s', tr') → Keys s s'
  | [], s, s', tr, tr', h => by cases h; exact ⟨[], rfl⟩
  | o :: l, s, s', tr, tr', h => by
    have hput : Keys s (s.put o.dst .sk) := by cases o.dst <;> exact ⟨[], rfl⟩
    have run : (match opG cfg fns rec dr o s with | some (s, x) => opsG cfg fns rec dr all l s (x :: tr) | none => none) = some (s', tr') → Keys s s' := fun h => by
      split at h
      · rename_i h1
        exact (opG_keys hrec h1).trans (opsG_keys hrec l _ s' _ _ h)
      · cases h
    unfold opsG at h
    simp only [opF_eq] at h
    split at h
    · exact run h
    · rename_i want _
      split at h
      · cases h
      · split at h
        · rename_i b _
          cases hb : (b == want) <;> rw [hb] at h
          · exact hput.trans (opsG_keys hrec l _ s' _ _ h)
          · exact run h
        · exact hput.trans (opsG_keys hrec l _ s' _ _ h)
        · cases h
theorem canonG_sound {E : Entry} {N : Nat} {ps : List (V × Value)} {M : Mem} {s : St} {a : Act} (h : Rel tab E N ps M s a) (keep : List Nat) : ∃ M', M'.w = M.w ∧ Rel tab E N ps M' (canonG keep s) a := by
  have hcl : ∀ (n : Nat) (ids : List Nat), ids.Nodup → (∀ i ∈ s.lent, i ∈ ids) → (closeG s.hp n ids).Nodup ∧ ∀ i ∈ s.lent, i ∈ closeG s.hp n ids := by
    intro n
    induction n with
    | zero => exact fun ids h1 h2 => ⟨h1, h2⟩
    | succ n ih => exact fun ids h1 h2 => ih _ (Zco h1) fun i hi => ZcI (.inl (h2 i hi))
  obtain ⟨hn, hin⟩ := hcl 4 _ (Zco (r := keep.flatMap fun t => idsV (s.slot t)) (Zco (r := s.lent) List.nodup_nil)) fun i hi => ZcI (.inl (ZcI (.inr hi)))
  exact canonBy_sound h keep hn hin
theorem ZdQ {cfg : Cfg} (hT : Zv P cfg.tab) (hS : ZaV P cfg.tab cfg.sums) (hmix : P.follows .mixedOrders = true) {fns : Fns} (hf : FnsOk P fns) {E : Entry} :
    ∀ (n : Nat) (cn : Clear) (c : Code) (s : St) (e : Ex) (s' : St), evalG cfg fns n cn c s = some (e, s') → ((∀ k, cn k = none) → Keys s s' ∧ (Fresh s → Fresh s')) ∧ ∀ N ps, ZaE N c = true → ∀ M a, Rel cfg.tab E N ps M s a → ∀ Q : Exit → Act → World → Prop,
      (∀ M' a', Rel cfg.tab E N ps M' s' a' → ((∀ k, cn k = none) → MemLe E M M') → Q (exitOf e) a' M'.w) → c.wp P Q a M.w
  | 0, cn, c, s, e, s', h => by cases h
  | n + 1, cn, c, s, e, s', h => by
    have ih := ZdQ hT hS hmix hf (E := E) n
    have hrec : ∀ E, RecOk P cfg.tab E (evalG cfg fns n fun _ => none) := fun E c s e s' h => have ih := ZdQ hT hS hmix hf (E := E) n; ⟨(ih _ c s e s' h).1 fun _ => rfl, fun N ps hc M a hR Q hQ => (ih _ c s e s' h).2 N ps hc M a hR Q fun M' a' h1 h2 => hQ M' a' h1 (h2 fun _ => rfl)⟩
    have hid : Keys s s ∧ (Fresh s → Fresh s) := ⟨⟨[], rfl⟩, id⟩
    have htr : ∀ {s1 s2 : St}, (Keys s s1 ∧ (Fresh s → Fresh s1)) → (Keys s1 s2 ∧ (Fresh s1 → Fresh s2)) → Keys s s2 ∧ (Fresh s → Fresh s2) := fun h1 h2 => ⟨h1.1.trans h2.1, fun h => h2.2 (h1.2 h)⟩
    change stepG cfg fns (evalG cfg fns n) cn c s = some (e, s') at h
    cases c with
    | skip => cases h; exact ⟨fun _ => hid, fun N ps hc M a hR Q hQ => wp_skip (hQ M a hR fun _ => .refl _ _)⟩
    | label l => cases h; exact ⟨fun _ => hid, fun N ps hc M a hR Q hQ => wp_label (hQ M a hR fun _ => .refl _ _)⟩
    | exit id => cases h; exact ⟨fun _ => hid, fun N ps hc M a hR Q hQ => wp_exit (hQ M a hR fun _ => .refl _ _)⟩
    | ret => cases h; exact ⟨fun _ => hid, fun N ps hc M a hR Q hQ => wp_ret (hQ M a hR fun _ => .refl _ _)⟩
    | region rid ops draw =>
      simp only [stepG] at h
      split at h
      · rename_i s1 tr h1
        cases hok : (!draw || (noMods tr || Zck (CheckFast.beforeF ops).toList 0 tr.reverse)) with
        | false => rw [hok] at h; cases h
        | true =>
        rw [hok] at h
        cases h
        refine ⟨fun _ => ⟨opsG_keys (fun c s e s' h => ((hrec E) c s e s' h).1.1) _ _ _ _ _ h1, fun hfr => ?_⟩, fun N ps hc M a hR Q hQ => ?_⟩
        · obtain ⟨es, rs, -, -, -, -, -, k6, -⟩ := opsG_inv (E := E) hT hS hf hrec _ _ _ _ _ h1 hfr
          exact k6
        · simp only [ZaE, Bool.and_eq_true, List.all_eq_true] at hc
          obtain ⟨hd, hp⟩ := hc
          have hdst : ∀ o ∈ ops.toList, ∀ d, o.dst = some d → d < N := fun o ho d hd' => by
            have := hd o ho
            rw [hd'] at this
            simpa using this
          obtain ⟨es, rs, k1, k2, k3, k4, k5, k6, k7⟩ := opsG_inv hT hS hf hrec _ _ _ _ _ h1 hR.fresh
          have hX : ∀ (i : Nat) (o : Oper), ops[i]? = some o → ∃ e r, es[i]? = some e ∧ rs[i]? = some r ∧ EntX P cfg.tab E ops o (Z5 s.F (es.take i)) e r := fun i o ho => k7 i o (by simpa using ho)
          have hfin : ∀ M' a', RelF cfg.tab E M M' (Z5 s.F es) a' → a'.tmps.size = N → a'.defers = [] → Q .normal a' M'.w := fun M' a' hR' q1 q2 =>
            hQ M' a' ⟨⟨hR'.mem, .refl _ _, by rw [k4]; exact hR'.hp, by rw [k4]; exact hR'.slots⟩, by rw [k5]; exact hR.lent.mono hR'.le.ρ, k6, q1, q2⟩ fun _ => hR'.le
          cases draw with
          | false =>
            refine wp_region ?_
            have := seqX (fun i o ho => by obtain ⟨e, r, q1, -, q2⟩ := hX i o ho; exact ⟨e, r, q1, q2⟩) (by simpa using k2) hdst hfin ops.size 0 (by omega) M a hR.rel hR.size hR.defers
            simpa [List.range_eq_range'] using this
          | true =>
            simp only [Bool.not_true, Bool.false_or] at hok hp
            rw [k1, List.append_nil, List.reverse_reverse] at hok
            rw [CheckFast.beforeF_eq] at hok hp
            have hget : ∀ (j : Nat) (o : Oper) (e : Ent), ops[j]? = some o → es[j]? = some e → ∃ r, rs[j]? = some r ∧ EntX P cfg.tab E ops o (Z5 s.F (es.take j)) e r := fun j o e ho hej => by
              obtain ⟨e', r, q1, q2, q3⟩ := hX j o ho
              rw [hej] at q1; cases q1; exact ⟨r, q2, q3⟩
            refine region_any hmix hR.rel k2 (k3.trans k2.symm) (fun j o e ho hej => ?_) (fun j e r hej hrj => ?_) hp (by simpa [noMods] using hok) (fun i o e r ho hei hri F' hsl hlog hall hmo M' a' hR' hsz K hK => ?_) fun M' a' h1 h2 h3 => hfin M' a' h1 (h2.trans hR.size) (h3.trans hR.defers)
            · obtain ⟨r, -, q⟩ := hget j o e ho hej; exact q.1
            · have hjl : j < ops.size := by have := (List.getElem?_eq_some_iff.1 hej).1; rw [k2] at this; simpa using this
              obtain ⟨r', q1, q2⟩ := hget j _ e (Array.getElem?_eq_getElem hjl) hej
              rw [hrj] at q1; cases q1; exact q2.2.1
            · obtain ⟨r', q1, q2⟩ := hget i o e ho hei
              rw [hri] at q1; cases q1
              exact q2.2.2 i ho F' hsl hlog hall hmo M M' a' hR' (fun d hd' => by rw [hsz, hR.size]; exact hdst o (by simpa using Array.mem_of_getElem? ho) d hd') Q K hK
      · cases h
    | seq c1 c2 =>
      simp only [stepG] at h
      split at h
      · rename_i s1 h1
        obtain ⟨a1, b1⟩ := ih cn c1 s .normal s1 h1
        obtain ⟨a2, b2⟩ := ih cn c2 s1 e s' h
        refine ⟨fun hcn => htr (a1 hcn) (a2 hcn), fun N ps hc M a hR Q hQ => ?_⟩
        simp only [ZaE, Bool.and_eq_true] at hc
        exact wp_seq (b1 N ps hc.1 M a hR _ fun M1 a1 hR1 hl1 => b2 N ps hc.2 M1 a1 hR1 Q fun M2 a2 hR2 hl2 => hQ M2 a2 hR2 fun hcn => (hl1 hcn).trans (hl2 hcn))
      · rename_i hne
        obtain ⟨a1, b1⟩ := ih cn c1 s e s' h
        refine ⟨a1, fun N ps hc M a hR Q hQ => ?_⟩
        simp only [ZaE, Bool.and_eq_true] at hc
        refine wp_seq (b1 N ps hc.1 M a hR _ fun M1 a1 hR1 hl1 => ?_)
        cases e with
        | normal => exact absurd h (hne s')
        | exit id => exact hQ M1 a1 hR1 hl1
        | ret => exact hQ M1 a1 hR1 hl1
    | cond c c1 c2 =>
      simp only [stepG] at h
      split at h
      · rename_i t
        cases hs : s.slot t with
        | bool b =>
          rw [hs] at h
          have hv : ∀ {N ps M a}, Rel cfg.tab E N ps M s a → a.eval (.tmp t) = .bool b := fun hR => by
            have hv := hR.rel.slots t
            have hb' : s.F.sl t = .bool b := hs
            rw [hb'] at hv
            exact hv.bool
          cases b with
          | true =>
            obtain ⟨a1, b1⟩ := ih cn c1 s e s' h
            refine ⟨a1, fun N ps hc M a hR Q hQ => ?_⟩
            simp only [ZaE, Bool.and_eq_true] at hc
            exact wp_cond_true (hv hR) (b1 N ps hc.1 M a hR Q hQ)
          | false =>
            obtain ⟨a1, b1⟩ := ih cn c2 s e s' h
            refine ⟨a1, fun N ps hc M a hR Q hQ => ?_⟩
            simp only [ZaE, Bool.and_eq_true] at hc
            exact wp_cond_false (hv hR) (b1 N ps hc.2 M a hR Q hQ)
        | _ => rw [hs] at h; cases h
      · obtain ⟨a1, b1⟩ := ih cn c1 s e s' h
        refine ⟨a1, fun N ps hc M a hR Q hQ => ?_⟩
        simp only [ZaE, Bool.and_eq_true] at hc
        exact wp_cond_true rfl (b1 N ps hc.1 M a hR Q hQ)
      · obtain ⟨a1, b1⟩ := ih cn c2 s e s' h
        refine ⟨a1, fun N ps hc M a hR Q hQ => ?_⟩
        simp only [ZaE, Bool.and_eq_true] at hc
        exact wp_cond_false rfl (b1 N ps hc.2 M a hR Q hQ)
      · cases h
    | block id c1 =>
      simp only [stepG] at h
      split at h
      · rename_i j s1 h1
        obtain ⟨a1, b1⟩ := ih cn c1 s (.exit j) s1 h1
        by_cases hj : j = id
        · subst hj
          simp only [Nat.beq_refl, cond_true, Option.some.injEq, Prod.mk.injEq] at h
          obtain ⟨rfl, rfl⟩ := h
          exact ⟨a1, fun N ps hc M a hR Q hQ => wp_block (b1 N ps hc M a hR _ fun M1 a1 hR1 hl1 => by simpa [exitOf, Exit.inBlock] using hQ M1 a1 hR1 hl1)⟩
        · have hb : Nat.beq j id = false := by
            cases hb : Nat.beq j id
            · rfl
            · exact absurd (Nat.eq_of_beq_eq_true hb) hj
          rw [hb] at h
          simp only [cond_false, Option.some.injEq, Prod.mk.injEq] at h
          obtain ⟨rfl, rfl⟩ := h
          exact ⟨a1, fun N ps hc M a hR Q hQ => wp_block (b1 N ps hc M a hR _ fun M1 a1 hR1 hl1 => by simpa [exitOf, Exit.inBlock, hj] using hQ M1 a1 hR1 hl1)⟩
      · rename_i hne
        obtain ⟨a1, b1⟩ := ih cn c1 s e s' h
        refine ⟨a1, fun N ps hc M a hR Q hQ => wp_block (b1 N ps hc M a hR _ fun M1 a1 hR1 hl1 => ?_)⟩
        cases e with
        | normal => exact hQ M1 a1 hR1 hl1
        | exit id' => exact absurd h (hne id' s')
        | ret => exact hQ M1 a1 hR1 hl1
    | loop c1 =>
      refine ⟨fun hcn => ?_, fun N ps hc M a hR Q hQ => ?_⟩
      · simp only [stepG] at h
        split at h
        · rename_i s1 h1
          have hcl : clearG cn (ZaZ c1) s1 = s1 := by unfold clearG; rw [hcn]
          rw [hcl] at h
          exact htr ((ih cn c1 s .normal s1 h1).1 hcn) ((ih cn (.loop c1) s1 e s' h).1 hcn)
        · exact (ih cn c1 s e s' h).1 hcn
      have hc1 : ZaE N c1 = true := hc
      refine wp_rounds (fun m a w => ∃ M1 s1, M1.w = w ∧ Rel cfg.tab E N ps M1 s1 a ∧ ((∀ k, cn k = none) → MemLe E M M1) ∧ m ≤ n + 1 ∧ evalG cfg fns m cn (.loop c1) s1 = some (e, s')) (fun a w => ?_) (fun m a w => ?_) (n := n + 1) ⟨M, s, rfl, hR, fun _ => .refl _ _, Nat.le_refl _, h⟩
      · rintro ⟨M1, s1, _, _, _, _, hr⟩
        cases hr
      · rintro ⟨M1, s1, rfl, hR1, hl1, hm, hr⟩
        have hr : stepG cfg fns (evalG cfg fns m) cn (.loop c1) s1 = some (e, s') := hr
        simp only [stepG] at hr
        have ihm := ZdQ hT hS hmix hf (E := E) m
        split at hr
        · rename_i s2 h2
          refine (ihm cn c1 s1 .normal s2 h2).2 N ps hc1 M1 a hR1 _ fun M2 a2 hR2 hl2 => ?_
          have hl : (∀ k, cn k = none) → MemLe E M M2 := fun hcn => (hl1 hcn).trans (hl2 hcn)
          unfold clearG at hr
          split at hr
          · rename_i keep hk
            obtain ⟨M3, hw3, hR3⟩ := canonG_sound hR2 keep
            exact ⟨M3, _, hw3, hR3, fun hcn => (by rw [hcn] at hk; cases hk), by omega, hr⟩
          · exact ⟨M2, _, rfl, hR2, hl, by omega, hr⟩
        · rename_i hne
          refine (ihm cn c1 s1 e s' hr).2 N ps hc1 M1 a hR1 _ fun M2 a2 hR2 hl2 => ?_
          cases e with
          | normal => exact absurd hr (hne s')
          | exit id => exact hQ M2 a2 hR2 fun hcn => (hl1 hcn).trans (hl2 hcn)
          | ret => exact hQ M2 a2 hR2 fun hcn => (hl1 hcn).trans (hl2 hcn)
    | _ => cases h
termination_by n => n
theorem fnG_sound {cfg : Cfg} (hT : Zv P cfg.tab) (hS : ZaV P cfg.tab cfg.sums) (hmix : P.follows .mixedOrders = true) {fns : Fns} (hf : FnsOk P fns) {cn : Clear} {n : Nat} {f : FuncId} {fn : Func} {c : Code} (hfn : P.funcs[f]? = some fn) (hb : fn.body = some c)
    (hc : ZaE fn.ntmps c = true) {args : List V} (hlen : args.length ≤ fn.ntmps) {r : V × List V} (h : Zcv cfg fns cn n fn args = some r) : SumOk P cfg.tab f args r := by
  unfold Zcv at h
  rw [hb] at h
  simp only [] at h
  split at h
  · cases h
  · rename_i e s' hne he
    refine fn_sound_of hT hfn hb hlen [] fun E ps => ⟨e, s', ?_, fun M a hR Q hQ => (ZdQ hT hS hmix hf n cn c _ e s' he).2 _ _ hc M a hR Q fun M' a' h1 _ => hQ M' a' h1⟩
    cases e with
    | normal => exact h
    | ret => exact h
    | exit id => exact (hne id rfl).elim
  · cases h
def fnsOf (P : Program) (fl : List Nat) : Fns := fun g => bif fl.contains g then P.funcs[g]? else none
def fnsB (P : Program) (fl : List Nat) : Bool := fl.all fun g => match P.funcs[g]? with
  | some fn => !(fn.name == "runtime.NumGoroutine") && (match fn.body with | some c => ZaE fn.ntmps c | none => true)
  | none => true
theorem fnsB_spec {fl : List Nat} (h : fnsB P fl = true) : FnsOk P (fnsOf P fl) := by
  intro g fn hg
  unfold fnsOf at hg
  cases hc : fl.contains g with
  | false => rw [hc] at hg; cases hg
  | true =>
    rw [hc] at hg
    have hg : P.funcs[g]? = some fn := hg
    have h1 := List.all_eq_true.1 h g (by simpa using hc)
    rw [hg] at h1
    simp only [Bool.and_eq_true, Bool.not_eq_true'] at h1
    refine ⟨hg, h1.1, fun c hb => ?_⟩
    have h2 := h1.2
    rw [hb] at h2; exact h2
theorem runClone_ok {cfg : Cfg} (hT : Zv P cfg.tab) (hS : ZaV P cfg.tab cfg.sums) (hmix : P.follows .mixedOrders = true) {fns : Fns} (hf : FnsOk P fns) {fuel : Nat} {f : FuncId} {fn : Func} {c : Code} (hfn : P.funcs[f]? = some fn) (hb : fn.body = some c)
    (hc : ZaE fn.ntmps c = true) {args : List V} (hlen : args.length ≤ fn.ntmps) {r : V × List V} (h : runClone cfg fns fuel fn args = some r) : SumOk P cfg.tab f args r := by
  unfold runClone at h
  split at h
  · rename_i T l
    have go : ∀ {v : V} {r : V × List V}, Zcv cfg fns (fun _ => none) fuel fn [v] = some r → SumOk P cfg.tab f [v] r := fun h => fnG_sound hT hS hmix hf hfn hb hc (by simpa using hlen) h
    split at h
    · rename_i T' o l' h1
      cases hl : l.isEmpty with
      | false =>
        rw [hl] at h
        cases h
        exact sumOk_nil (go h1) fun e => by rw [e] at hl; cases hl
      | true =>
        rw [hl, cond_true] at h
        split at h
        · rename_i T2 h2
          cases hq : (l'.isEmpty && (cfg.tab T').isSome) with
          | false => rw [hq] at h; cases h
          | true =>
            rw [hq] at h
            cases h
            simp only [Bool.and_eq_true, List.isEmpty_iff] at hq
            obtain ⟨rfl, hq⟩ := hq
            exact sumOk_nil (go h1) fun _ => (go h2).weaken (ss := [[.rr T' o]]) (os := []) (by simpa [s1Ok] using hq) rfl
        · cases h
    · cases h
  · cases h
theorem runSums_ok {cfg : Cfg} (hT : Zv P cfg.tab) (hS : ZaV P cfg.tab cfg.sums) (hmix : P.follows .mixedOrders = true) {fns : Fns} (hf : FnsOk P fns) {fl : List Nat} (hfl : fnsB P fl = true) (cl : List Nat) (cnf : Nat → Clear) (fuel : Nat) : ∀ n, ZaV P cfg.tab (runSums P cfg fns fl cl cnf fuel n)
  | 0 => hS
  | n + 1 => by
    have ih := runSums_ok hT hS hmix hf hfl cl cnf fuel n
    intro f args r h
    have h : (match cfg.sums f args with
      | some r => some r
      | none => bif fl.contains f then match P.funcs[f]? with
          | some fn => bif Nat.ble args.length fn.ntmps then match bif cl.contains f then runClone { cfg with sums := runSums P cfg fns fl cl cnf fuel n } fns fuel fn args else Zcv { cfg with sums := runSums P cfg fns fl cl cnf fuel n } fns (cnf f) fuel fn args with
              | some r => some (true, r)
              | none => none
            else none
          | none => none
        else none) = some (true, r) := h
    split at h
    · rename_i r' hr
      cases h
      exact hS f args r hr
    · cases hc : fl.contains f with
      | false => rw [hc] at h; cases h
      | true =>
        rw [hc, cond_true] at h
        split at h
        · rename_i fn hfn
          cases hle : Nat.ble args.length fn.ntmps with
          | false => rw [hle] at h; cases h
          | true =>
            rw [hle, cond_true] at h
            obtain ⟨q1, q2, q3⟩ := fnsB_spec hfl f fn (by unfold fnsOf; rw [hc]; exact hfn)
            have hl := Nat.le_of_ble_eq_true hle
            cases hcl : cl.contains f with
            | true =>
              rw [hcl, cond_true] at h
              split at h
              · rename_i r' he
                cases h
                have hb : ∃ c, fn.body = some c := by
                  cases hb : fn.body with
                  | none =>
                    unfold runClone at he
                    split at he
                    · unfold Zcv at he; rw [hb] at he; cases he
                    · cases he
                  | some c => exact ⟨c, rfl⟩
                obtain ⟨c, hb⟩ := hb
                exact ⟨⟨fn, q1, q2, by rw [hb]; rfl⟩, runClone_ok (cfg := { cfg with sums := runSums P cfg fns fl cl cnf fuel n }) hT ih hmix hf q1 hb (q3 c hb) hl he⟩
              · cases h
            | false =>
              rw [hcl, cond_false] at h
              split at h
              · rename_i r' he
                cases h
                have hb : ∃ c, fn.body = some c := by
                  cases hb : fn.body with
                  | none => unfold Zcv at he; rw [hb] at he; cases he
                  | some c => exact ⟨c, rfl⟩
                obtain ⟨c, hb⟩ := hb
                exact ⟨⟨fn, q1, q2, by rw [hb]; rfl⟩, fnG_sound (cfg := { cfg with sums := runSums P cfg fns fl cl cnf fuel n }) hT ih hmix hf q1 hb (q3 c hb) hl he⟩
              · cases h
        · cases h
end
end
end Go.Eng
namespace Go.Eng
section
variable {X Y : Type} (g : X → Y)
theorem guards_map : ∀ (l : List Bool) (x : Option X), (guards l x).map g = guards l (x.map g)
  | [], _ => rfl
  | b :: r, x => by cases b; · rfl
                    · exact guards_map r x
theorem evalEff_map (cfg : Cfg) (o : Oper) (s : St) (tr : List Rec) (k : St → List Rec → Option X) : (evalEff cfg o s tr k).map g = evalEff cfg o s tr fun s t => (k s t).map g := by
  unfold evalEff
  split
  · exact guards_map g _ _
  · rfl
theorem evalOp_map (cfg : Cfg) (o : Oper) (s : St) (tr : List Rec) (k : St → List Rec → Option X) : (evalOp cfg o s tr k).map g = evalOp cfg o s tr fun s t => (k s t).map g := by
  unfold evalOp
  split
  · split
    · rename_i b _
      cases b <;> exact evalEff_map g _ _ _ _ _
    · rfl
  · exact evalEff_map g _ _ _ _ _
theorem evalOps_map (cfg : Cfg) (all : List Oper) : ∀ (l : List Oper) (s : St) (tr : List Rec) (k : St → List Rec → Option X), (Zbb cfg all l s tr k).map g = Zbb cfg all l s tr fun s t => (k s t).map g
  | [], _, _, _ => rfl
  | o :: r, s, tr, k => by
    have ih := evalOps_map cfg all r
    have step : ∀ s tr, (evalOp cfg o s tr fun s tr => Zbb cfg all r s tr k).map g = evalOp cfg o s tr fun s tr => Zbb cfg all r s tr fun s t => (k s t).map g := fun s tr => by
      rw [evalOp_map]
      congr 1
      funext s t
      exact ih _ _ _
    unfold Zbb
    split
    · exact step _ _
    · split
      · rfl
      · split
        · rename_i b _
          split <;> cases b <;> first | exact step _ _ | exact ih _ _ _
        · exact ih _ _ _
        · rfl
theorem Out.fold_map (k : Ex → St → Option X) : ∀ o : Out, (o.fold k).map g = o.fold fun e s => (k e s).map g
  | .leaf _ _ => rfl
  | .br b t f => by cases b; · exact Out.fold_map k f
                    · exact Out.fold_map k t
  | .tst b o => by cases b; · rfl
                   · exact Out.fold_map k o
theorem evalC_map (cfg : Cfg) (L : Loops) : ∀ (c : Code) (s : St) (k : Ex → St → Option X), (ZbD cfg L c s k).map g = ZbD cfg L c s fun e s => (k e s).map g := by
  intro c
  induction c with
  | skip => intros; rfl
  | label => intros; rfl
  | region id ops draw =>
    intro s k
    cases draw
    · simp only [ZbD]; exact evalOps_map g _ _ _ _ _ _
    · simp only [ZbD]
      rw [evalOps_map]
      congr 1
      funext s tr
      cases (noMods tr || Zck (CheckFast.beforeF ops).toList 0 tr.reverse) <;> rfl
  | seq a b iha ihb =>
    intro s k
    simp only [ZbD]
    rw [iha]
    congr 1
    funext e s
    cases e <;> first | exact ihb _ _ | rfl
  | cond c a b iha ihb =>
    intro s k
    simp only [ZbD]
    split
    · split
      · rename_i x _
        cases x
        · exact ihb _ _
        · exact iha _ _
      · rfl
    · exact iha _ _
    · exact ihb _ _
    · rfl
  | block id a ih =>
    intro s k
    simp only [ZbD]
    rw [ih]
    congr 1
    funext e s
    cases e with
    | exit j =>
      show ((bif Nat.beq j id then k .normal s else k (.exit j) s).map g) = bif Nat.beq j id then (k .normal s).map g else (k (.exit j) s).map g
      cases Nat.beq j id <;> rfl
    | _ => rfl
  | loop a ih =>
    intro s k
    simp only [ZbD]
    cases L.run (ZaZ a) (head cfg.tab (L.keep (ZaZ a)) (L.thaws (ZaZ a)) s) with
    | none => rfl
    | some o => exact Out.fold_map g k o
  | exit => intros; rfl
  | ret => intros; rfl
  | _ => intros; rfl
end
noncomputable def evalW (w : V × List V → V × List V) (cfg : Cfg) (L : Loops) (fn : Func) (args : List V) : Option (V × List V) :=
  match fn.body with
  | none => none
  | some c => ZbD cfg L c (entry args) fun e s => match e with
    | .exit _ => none
    | _ => (kept (args.flatMap lkOf) (finish cfg.tab fn.results.toList (cutAll (Zc4 cfg.tab s s.lent) L.cuts))).map w
theorem evalW_eq (w : V × List V → V × List V) (cfg : Cfg) (L : Loops) (fn : Func) (args : List V) : evalW w cfg L fn args = (evalFn cfg L fn args).map w := by
  unfold evalW evalFn
  cases fn.body with
  | none => rfl
  | some c =>
    dsimp only
    rw [evalC_map]
    congr 1
    funext e s
    cases e <;> rfl
structure En (P : Program) (tab : Tab) where
  f : FuncId
  s : List V → Option (Bool × (V × List V))
  ok : ∀ args r, s args = some (true, r) → SumOk P tab f args r
  en : Enters P f
  par : List (Option TypeId)
  wr : Bool
variable {P : Program} {tab : Tab}
def sumsL : List (En P tab) → Sums
  | [], _, _ => none
  | e :: r, f, args => bif Nat.beq e.f f then (match e.s args with
    | some x => some x
    | none => sumsL r f args) else sumsL r f args
def parL : List (En P tab) → FuncId → List (Option TypeId)
  | [], _ => []
  | e :: r, f => bif Nat.beq e.f f then e.par else parL r f
def mutL : List (En P tab) → FuncId → Bool
  | [], _ => false
  | e :: r, f => bif Nat.beq e.f f then e.wr else mutL r f
def anyN : List Nat → Nat → Bool
  | [], _ => false
  | x :: r, f => bif Nat.beq f x then true else anyN r f
def Zav (l : List (En P tab)) (deep : Bool) (ro : List Nat) : Cfg := ⟨tab, sumsL l, mutL l, parL l, deep, anyN ro⟩
theorem sumsL_ok : ∀ l : List (En P tab), ZaV P tab (sumsL l)
  | [], _, _, _, h => by cases h
  | e :: r, f, args, x, h => by
    unfold sumsL at h
    cases hb : Nat.beq e.f f with
    | false => rw [hb] at h; exact sumsL_ok r f args x h
    | true =>
      rw [hb, cond_true] at h
      obtain rfl := beqN hb
      split at h
      · rename_i y hy
        cases h
        exact ⟨e.en, e.ok args x hy⟩
      · exact sumsL_ok r _ args x h
def fnB (fn : Func) (A : List S2) (tab : Tab) (ws os : List (List S1)) : Bool :=
  fnOk fn && (Nat.ble A.length fn.ntmps && (((ws.all fun s => s.all (s1Ok tab)) && (os.all fun s => s.all (s1Ok tab))) && (!(fn.name == "runtime.NumGoroutine") && fn.body.isSome)))
theorem ZbG {fn : Func} {A : List S2} {tab : Tab} {ws os : List (List S1)} (h : fnB fn A tab ws os = true) : fnOk fn = true ∧ Nat.ble A.length fn.ntmps = true ∧ ((ws.all fun s => s.all (s1Ok tab)) && (os.all fun s => s.all (s1Ok tab))) = true ∧ (!(fn.name == "runtime.NumGoroutine") && fn.body.isSome) = true := by
  unfold fnB at h
  obtain ⟨h1, h2⟩ := (Bool.and_eq_true _ _).mp h
  obtain ⟨h3, h4⟩ := (Bool.and_eq_true _ _).mp h2
  obtain ⟨h5, h6⟩ := (Bool.and_eq_true _ _).mp h4
  exact ⟨h1, h3, h5, h6⟩
def enP (hB : Base P tab) (l : List (En P tab)) (deep : Bool) (ro : List Nat) {f : FuncId} {fn : Func} (hf : P.funcs[f]? = some fn) {L : Loops} (hL : ZQ (Zav l deep ro) L (Z6 fn)) (A : List S2)
    {α : Type} [Inhabited α] (F : List V → Option α) (sh : α → V × List V) (ws os : List (List S1)) (par : List (Option TypeId)) (wr : Bool) (h : fnB fn A tab ws os = true)
    (E : ∀ a, Agr id sh (F a) (evalW (wkF ws os) (Zav l deep ro) L fn (argsMk A a 0))) : En P tab :=
  { f := f, s := fun args => bif Za5 A args then some ((F args).isSome, sh ((F args).getD default)) else none,
    ok := Base.sum (cfg := Zav l deep ro) hB (sumsL_ok l) hf (ZbG h).1 hL A (ZbG h).2.1 ws os (ZbG h).2.2.1 fun args ha => by
      intro r e
      have q := E args r e
      rw [evalW_eq, ha] at q
      simpa using q
    en := ZbQ hf (ZbG h).2.2.2, par := par, wr := wr }
def enT (hB : Base P tab) (l : List (En P tab)) (deep : Bool) (ro : List Nat) {f : FuncId} {fn : Func} (hf : P.funcs[f]? = some fn) {L : Loops} (hL : ZQ (Zav l deep ro) L (Z6 fn)) (A : List S2)
    {α : Type} (F : List V → α) (sh : α → V × List V) (ws os : List (List S1)) (par : List (Option TypeId)) (wr : Bool) (h : fnB fn A tab ws os = true)
    (E : ∀ a, Tot id sh (F a) (evalW (wkF ws os) (Zav l deep ro) L fn (argsMk A a 0))) : En P tab :=
  { f := f, s := fun args => bif Za5 A args then some (true, sh (F args)) else none,
    ok := Base.sumT (cfg := Zav l deep ro) hB (sumsL_ok l) hf (ZbG h).1 hL A (ZbG h).2.1 ws os (ZbG h).2.2.1 fun args ha => by
      have q := E args
      rw [evalW_eq, ha] at q
      unfold Tot at *
      simpa using q
    en := ZbQ hf (ZbG h).2.2.2, par := par, wr := wr }
def enN (hB : Base P tab) (l : List (En P tab)) (deep : Bool) (ro : List Nat) {f : FuncId} {fn : Func} (hf : P.funcs[f]? = some fn) {L : Loops} (hL : ZQ (Zav l deep ro) L (Z6 fn)) (T : TypeId)
    {α : Type} [Inhabited α] (F : List V → Option α) (sh : α → V × List V) (ws os : List (List S1)) (par : List (Option TypeId)) (wr : Bool) (h : fnB fn [.one (.inl T)] tab ws os = true)
    (E1 : ∀ l', Agr id sh (F l') (evalW (wkF ws os) (Zav l deep ro) L fn [.nn T l'])) (E2 : Agr id sh (F []) (evalW (wkF ws os) (Zav l deep ro) L fn [.nl T])) : En P tab :=
  { f := f, s := fun args => bif Za5 [.one (.inl T)] args then some ((F (rd args 0).L).isSome, sh ((F (rd args 0).L).getD default)) else none,
    ok := Base.sumNil (cfg := Zav l deep ro) hB (sumsL_ok l) hf (ZbG h).1 hL T (ZbG h).2.1 ws os (ZbG h).2.2.1
      (fun l' r e => by
        have q := E1 l' r e
        rw [evalW_eq] at q
        simpa using q)
      (fun r e => by
        have q := E2 r e
        rw [evalW_eq] at q
        simpa using q)
    en := ZbQ hf (ZbG h).2.2.2, par := par, wr := wr }
section
variable {α β Y : Type} {sh : α → Y}
theorem g0 : Agr id sh (none : Option α) none := fun _ h => by cases h
theorem g1 {c : Bool} {a b : Option α} {A B : Option Y} (h1 : Agr id sh a A) (h2 : Agr id sh b B) : Agr id sh (bif c then a else b) (bif c then A else B) := agr_if h1 h2
theorem g2 [Inhabited β] {F : Option β} {f : β → Option α} {g : β → Option Y} (h : ∀ x, Agr id sh (f x) (g x)) : Agr id sh (F.bind f) (rcall F g) := agr_call h
theorem g3 {x : β} {f : β → Option α} {g : β → Option Y} (h : ∀ x, Agr id sh (f x) (g x)) : Agr id sh (rlet x f) (rlet x g) := h x
theorem g4 {r : α} : Agr id sh (some r) (some (sh r)) := agr_leaf rfl
theorem g5 {c : Bool} {a b : α} {A B : Option Y} (h1 : Tot id sh a A) (h2 : Tot id sh b B) : Tot id sh (bif c then a else b) (bif c then A else B) := tot_if h1 h2
theorem g7 {r : α} : Tot id sh r (some (sh r)) := tot_leaf rfl
theorem gA {F : Option α} {t u : Option Y} (h : Agr id sh F t) (e : u = t) : Agr id sh F u := e ▸ h
theorem gT {F : α} {t u : Option Y} (h : Tot id sh F t) (e : u = t) : Tot id sh F u := e ▸ h
end
def lpB (fn : Func) (i : Nat) : Code := (Zb8 (Z6 fn)).getD i .skip
def slv : Nat → List V → List (Nat × V)
  | _, [] => []
  | n, v :: r => (n, v) :: slv n r
def bx (v : V) : Option Blk := some (.box 0 v.cells)
def rb (l : List V) : Option Blk := some (.row 0 false l)
def hpv : List (Option Blk) → List (Nat × Option Blk)
  | [] => []
  | v :: r => (0, v) :: hpv r
def stv (vs : List V) (bs : List (Option Blk)) : St := ⟨slv 0 vs, hpv bs, 0, []⟩
def pk0 {α : Type} (ps : α → List (Ex × St)) (r : α) : Ex × St := pick 0 0 (ps r)
def pk1 {β : Type} (ps : Nat × β → List (Ex × St)) (r : Nat × β) : Ex × St := pick r.1 0 (ps r)
def le0 {α : Type} [Inhabited α] (key : Nat) (ss : SS) (F : St → Option α) (ps : α → List (Ex × St)) : LE := ⟨key, ss, fun s => Out.tst (F s).isSome (brs 0 0 (ps ((F s).getD default)))⟩
def le1 {β : Type} [Inhabited β] (key : Nat) (ss : SS) (F : St → Option (Nat × β)) (ps : Nat × β → List (Ex × St)) : LE := ⟨key, ss, fun s => Out.tst (F s).isSome (brs (((F s).getD default).1) 0 (ps ((F s).getD default)))⟩
section
variable {cfg : Cfg} {L : Loops} {body : Code} {key : Nat} {ss : SS}
theorem gd0 {α : Type} [Inhabited α] {F : St → Option α} {t : St → Option (Ex × St)} (fuel : St → Nat) {ps : α → List (Ex × St)} (H : ∀ st, Agr id (pk0 ps) (F st) (t st)) (e : ∀ st, t st = Z9 cfg L body (fuel st) (ss.mk' st)) :
    Good cfg L body (le0 key ss F ps) :=
  good_of (F := F) fuel (ix := fun _ => 0) (ps := ps) fun st hs => by
    have := H st
    rw [e st, hs] at this
    exact this
theorem gd1 {β : Type} [Inhabited β] {F : St → Option (Nat × β)} {t : St → Option (Ex × St)} (fuel : St → Nat) {ps : Nat × β → List (Ex × St)} (H : ∀ st, Agr id (pk1 ps) (F st) (t st)) (e : ∀ st, t st = Z9 cfg L body (fuel st) (ss.mk' st)) :
    Good cfg L body (le1 key ss F ps) :=
  good_of (F := F) fuel (ix := fun r => r.1) (ps := ps) fun st hs => by
    have := H st
    rw [e st, hs] at this
    exact this
end
end Go.Eng
namespace Go.Eng
def I64 (n : Int) : Prop := -9223372036854775808 ≤ n ∧ n ≤ 9223372036854775807
theorem Zaw {n : Int} (h1 : -9223372036854775808 ≤ n) (h2 : n ≤ 9223372036854775807) : IntKind.i64.wrap n = n := IntWalk.i64_in n ⟨h1, h2⟩
def LW (w : V → Prop) (l : List V) : Prop := l.length ≤ 9223372036854775807 ∧ ∀ x ∈ l, w x
def Zas (x : V) : Prop := 0 ≤ gi x 0 ∧ gi x 0 ≤ 255
def W_int (x : V) : Prop := I64 (gi x 0)
def c1 (_ : V) : Nat := 1
theorem LW.rd {w : V → Prop} {l : List V} (h : LW w l) {i : Nat} (hi : i < l.length) : w (Eng.rd l i) := by
  have : Eng.rd l i = l[i] := by simp [Eng.rd, List.getD, hi]
  rw [this]; exact h.2 _ (List.getElem_mem hi)
theorem gi_c0 (k : IntKind) (n : Int) (l : List V) : gi (.agg (.int k n :: l)) 0 = n := rfl
theorem gl_c0 (T : TypeId) (x l : List V) : gl (.agg (.inl T x :: l)) 0 = x := rfl
theorem gi_cs (v : V) (l : List V) (j : Nat) : gi (.agg (v :: l)) (j + 1) = gi (.agg l) j := rfl
theorem gl_cs (v : V) (l : List V) (j : Nat) : gl (.agg (v :: l)) (j + 1) = gl (.agg l) j := rfl
theorem Zr {i n : Nat} (h : i < n) : Zm (i : Int) n = true := by simp [Zm]; omega
theorem Za7 {i n : Nat} (h : i < n) : decide (((i : Nat) : Int) < ((n : Nat) : Int)) = true := by simp; omega
theorem ZaM (n : Nat) : decide (((n : Nat) : Int) < ((n : Nat) : Int)) = false := by simp
theorem Za0 {i n : Nat} (h : i < n) (hn : n ≤ 9223372036854775807) : IntKind.i64.wrap ((i : Int) + 1) = ((i + 1 : Nat) : Int) := by
  rw [Zaw (by omega) (by omega)]; omega
theorem Zbs (n : Nat) : (((n : Nat) : Int) - 0).toNat + 1 = n + 1 := by omega
theorem roomy_of {n b : Nat} (h : n * b ≤ 140737488355328) (h1 : n ≤ 9223372036854775807) : Zu n b = true := by simp [Zu, h, h1]
theorem loop_run {σ ρ : Type} {F : Nat → σ → Int → ρ} {n : Nat} (I : Nat → σ → Prop) (Q : ρ → Prop)
    (step : ∀ m i s, i < n → I i s → (∃ s', F (m + 1) s (i : Int) = F m s' ((i + 1 : Nat) : Int) ∧ I (i + 1) s') ∨ Q (F (m + 1) s (i : Int)))
    (fin : ∀ m s, I n s → Q (F (m + 1) s (n : Int))) :
    ∀ m i s, i ≤ n → n - i < m → I i s → Q (F m s (i : Int))
  | 0, i, s, _, h, _ => by omega
  | m + 1, i, s, hi, hm, hI => by
    rcases Nat.lt_or_ge i n with hlt | hge
    · rcases step m i s hlt hI with ⟨s', e, hI'⟩ | h
      · rw [e]; exact loop_run I Q step fin m (i + 1) s' (by omega) (by omega) hI'
      · exact h
    · obtain rfl : i = n := by omega
      exact fin m s hI
theorem Zdx {σ ρ : Type} {F : Nat → σ → Int → ρ} {n : Nat} (I : Nat → σ → Prop) (Q : ρ → Prop)
    (step : ∀ m i s, i < n → I i s → (∃ s', F (m + 1) s (i : Int) = F m s' ((i + 1 : Nat) : Int) ∧ I (i + 1) s') ∨ Q (F (m + 1) s (i : Int)))
    (fin : ∀ m s, I n s → Q (F (m + 1) s (n : Int))) {s : σ} (h : I 0 s) : Q (F (n + 1) s 0) :=
  loop_run I Q step fin (n + 1) 0 s (by omega) (by omega) h
end Go.Eng
namespace Go.Eng
open Go.ChangeShapes Go.WideShapes
inductive Wt (tab : Tab) : Ck → V → Prop where
  | int (k : IntKind) (n : Int) : (Lit.int k n).wf = true → Wt tab (.int k) (.int k n)
  | bool (b : Bool) : Wt tab .bool (.bool b)
  | str (s : ByteArray) : s.size ≤ 9223372036854775807 → Wt tab .str (.str (Z0 s))
  | sl (T : TypeId) (ty : Ty) (l : List V) : tab T = some ty → l.length ≤ 9223372036854775807 → (∀ i, i < l.length → Zbp ty (l.getD i .dead)) →
      (∀ i j, i < l.length → j < ty.kinds.length → Wt tab (ty.kinds.getD j .other) ((l.getD i .dead).cell j)) → Wt tab (.sl T) (.inl T l)
def WtT (tab : Tab) (T : TypeId) (x : V) : Prop := ∃ ty, tab T = some ty ∧ Zbp ty x ∧ ∀ j, j < ty.kinds.length → Wt tab (ty.kinds.getD j .other) (x.cell j)
theorem Wt.kindOk {tab : Tab} {k : Ck} {x : V} (h : Wt tab k x) : kindOk k x := by
  cases h <;> simp [Eng.kindOk]
def kindsOf (tab : Tab) (T : TypeId) : List Ck := match tab T with
  | some ty => ty.kinds
  | none => []
def fieldsB (P : Program) (tab : Tab) (R : List TypeId) : Nat → List Field → Bool
  | _, [] => true
  | o, f :: r => R.contains f.type && (decide (f.offset = o) && (decide (P.cellsOf f.type = (kindsOf tab f.type).length) && fieldsB P tab R (o + (kindsOf tab f.type).length) r))
def readB1 (P : Program) (tab : Tab) (R : List TypeId) (t : TypeId) : Bool :=
  match tab t with
  | none => false
  | some ty => decide (P.cellsOf t = ty.kinds.length) && match P.underlying t with
    | some (.int k) => !ty.agg && decide (ty.kinds = [.int k])
    | some .bool => !ty.agg && decide (ty.kinds = [.bool])
    | some .string => !ty.agg && decide (ty.kinds = [.str])
    | some (.slice e) => !ty.agg && (decide (ty.kinds = [.sl e]) && R.contains e)
    | some (.struct fs) => ty.agg && (fieldsB P tab R 0 fs.toList && decide (ty.kinds = fs.toList.flatMap fun f => kindsOf tab f.type))
    | _ => false
def readB (P : Program) (tab : Tab) (R : List TypeId) : Bool := R.all (readB1 P tab R)
section
variable {H : Type} {enc : TypeId × Value → H} {P : Program} {tab : Tab} {w : World} {sp : Nat → Bool} {held : Bool}
def CellsIs (tab : Tab) (w : World) (ks : List Ck) (cs : List Value) (ys : List V) : Prop :=
  ys.length = ks.length ∧ cs.length = ks.length ∧ (∀ j, j < ks.length → Rp tab w (· < w.heap.size) (ys.getD j .dead) (cs.getD j undef)) ∧ ∀ j, j < ks.length → Wt tab (ks.getD j .other) (ys.getD j .dead)
theorem CellsIs.one {k : Ck} {v : Value} {y : V} (h1 : Rp tab w (· < w.heap.size) y v) (h2 : Wt tab k y) : CellsIs tab w [k] [v] [y] := by
  refine ⟨rfl, rfl, fun j hj => ?_, fun j hj => ?_⟩ <;>
  · have : j = 0 := by simpa using hj
    subst this
    assumption
theorem CellsIs.append {k1 k2 : List Ck} {c1 c2 : List Value} {y1 y2 : List V} (h1 : CellsIs tab w k1 c1 y1) (h2 : CellsIs tab w k2 c2 y2) : CellsIs tab w (k1 ++ k2) (c1 ++ c2) (y1 ++ y2) := by
  obtain ⟨a1, a2, a3, a4⟩ := h1
  obtain ⟨b1, b2, b3, b4⟩ := h2
  refine ⟨by simp [a1, b1], by simp [a2, b2], fun j hj => ?_, fun j hj => ?_⟩
  · simp only [List.length_append] at hj
    by_cases h : j < k1.length
    · have e1 : (y1 ++ y2).getD j .dead = y1.getD j .dead := by simp [List.getD, List.getElem?_append_left (show j < y1.length by omega)]
      have e2 : (c1 ++ c2).getD j undef = c1.getD j undef := by simp [List.getD, List.getElem?_append_left (show j < c1.length by omega)]
      rw [e1, e2]; exact a3 j h
    · have e1 : (y1 ++ y2).getD j .dead = y2.getD (j - k1.length) .dead := by simp [List.getD, List.getElem?_append_right (show y1.length ≤ j by omega), a1]
      have e2 : (c1 ++ c2).getD j undef = c2.getD (j - k1.length) undef := by simp [List.getD, List.getElem?_append_right (show c1.length ≤ j by omega), a2]
      rw [e1, e2]; exact b3 _ (by omega)
  · simp only [List.length_append] at hj
    by_cases h : j < k1.length
    · have e1 : (y1 ++ y2).getD j .dead = y1.getD j .dead := by simp [List.getD, List.getElem?_append_left (show j < y1.length by omega)]
      have e2 : (k1 ++ k2).getD j .other = k1.getD j .other := by simp [List.getD, List.getElem?_append_left (show j < k1.length by omega)]
      rw [e1, e2]; exact a4 j h
    · have e1 : (y1 ++ y2).getD j .dead = y2.getD (j - k1.length) .dead := by simp [List.getD, List.getElem?_append_right (show y1.length ≤ j by omega), a1]
      have e2 : (k1 ++ k2).getD j .other = k2.getD (j - k1.length) .other := by simp [List.getD, List.getElem?_append_right (show k1.length ≤ j by omega)]
      rw [e1, e2]; exact b4 _ (by omega)
theorem CellsIs.shape {T : TypeId} {ty : Ty} (hty : TyOk P tab T ty) {cs : List Value} {ys : List V} (h : CellsIs tab w ty.kinds cs ys) : Zbp ty (Eng.mk ty.agg ys) ∧ (Eng.mk ty.agg ys).cells = ys :=
  shape_mk hty h.1 fun j hj => (h.2.2.2 j hj).kindOk
theorem fields_read {R : List TypeId} {n : Nat} (ih : ∀ t ∈ R, ∀ cs x, DataW.trod enc P w 0 sp held n t cs = some x → ∃ ty ys, tab t = some ty ∧ CellsIs tab w ty.kinds cs ys) (cs : List Value) :
    ∀ (fs : List Field) (o : Nat) (xs : List (DataW H × List MemPlace)), fieldsB P tab R o fs = true →
      (fs.mapM fun f => DataW.trod enc P w 0 sp held n f.type ((cs.drop f.offset).take (P.cellsOf f.type))) = some xs →
      ∃ ys, CellsIs tab w (fs.flatMap fun f => kindsOf tab f.type) ((cs.drop o).take ((fs.flatMap fun f => kindsOf tab f.type).length)) ys
  | [], o, xs, _, _ => ⟨[], rfl, by simp, fun j hj => by simp at hj, fun j hj => by simp at hj⟩
  | f :: fs, o, xs, hB, hx => by
    simp only [fieldsB, Bool.and_eq_true, decide_eq_true_eq, List.contains_iff_mem] at hB
    obtain ⟨h1, h2, h3, h4⟩ := hB
    rw [List.mapM_cons] at hx
    obtain ⟨x, hx1, hx2⟩ := Option.bind_eq_some_iff.1 hx
    obtain ⟨xr, hx3, hx4⟩ := Option.bind_eq_some_iff.1 hx2
    obtain ⟨ty, ys1, e1, c1⟩ := ih _ h1 _ _ hx1
    obtain ⟨ys2, c2⟩ := fields_read ih cs fs _ _ h4 hx3
    have ek : kindsOf tab f.type = ty.kinds := by simp [kindsOf, e1]
    refine ⟨ys1 ++ ys2, ?_⟩
    rw [h2, h3, ek] at c1
    rw [ek] at c2
    have := c1.append c2
    rw [List.flatMap_cons, ek]
    refine cast ?_ this
    congr 1
    rw [List.length_append]
    rw [← List.drop_drop, List.take_add]
theorem add_zero' (a : Addr) : a.add 0 = a := by simp [Addr.add]
theorem add_plain {a : Addr} (h : a.spot = none) (n : Nat) : a.add n = ⟨a.block, a.off + n, none⟩ := by
  cases a
  simp only at h
  subst h
  unfold Addr.add
  split
  · simp_all
  · rfl
theorem cells_read (hT : Zv P tab) {R : List TypeId} (hR : readB P tab R = true) : ∀ (n : Nat), ∀ t ∈ R, ∀ (cs : List Value) (x : DataW H × List MemPlace), DataW.trod enc P w 0 sp held n t cs = some x →
    ∃ ty ys, tab t = some ty ∧ CellsIs tab w ty.kinds cs ys
  | 0, t, ht, cs, x, h => by simp [DataW.trod] at h
  | n + 1, t, ht, cs, x, h => by
    have h1 := List.all_eq_true.1 hR t ht
    unfold readB1 at h1
    split at h1
    · cases h1
    rename_i ty hty
    simp only [Bool.and_eq_true, decide_eq_true_eq] at h1
    obtain ⟨hcells, h1⟩ := h1
    refine ⟨ty, ?_⟩
    have ih := cells_read hT hR n
    unfold DataW.trod at h
    split at h1
    · rename_i k hu
      simp only [Bool.and_eq_true, decide_eq_true_eq] at h1
      rw [hu] at h
      split at h <;> simp_all
      exact ⟨_, CellsIs.one (.int _ _) (.int _ _ (by rename_i hh; exact h.1.2))⟩
    · rename_i hu
      simp only [Bool.and_eq_true, decide_eq_true_eq] at h1
      rw [hu] at h
      split at h <;> simp_all
      exact ⟨_, CellsIs.one (.bool _) (.bool _)⟩
    · rename_i hu
      simp only [Bool.and_eq_true, decide_eq_true_eq] at h1
      rw [hu] at h
      split at h <;> simp_all
      exact ⟨_, CellsIs.one (.str _ _ rfl) (.str _ (by rename_i hh; have := h.1; unfold maxLen at this; omega))⟩
    · rename_i e hu
      simp only [Bool.and_eq_true, decide_eq_true_eq, List.contains_iff_mem, Bool.not_eq_true'] at h1
      obtain ⟨ha, hk, he⟩ := h1
      rw [hu] at h
      have e1 := List.all_eq_true.1 hR e he
      obtain ⟨ty2, hty2⟩ : ∃ ty2, tab e = some ty2 := by
        unfold readB1 at e1
        split at e1
        · cases e1
        · rename_i ty2 h2; exact ⟨ty2, h2⟩
      have hsz : P.cellsOf e = ty2.kinds.length := by
        unfold readB1 at e1
        rw [hty2] at e1
        simp only [Bool.and_eq_true, decide_eq_true_eq] at e1
        exact e1.1
      have hpos := (hT e ty2 hty2).pos
      rw [hk]
      split at h
      case h_7 =>
        exact ⟨_, hty, CellsIs.one (.inl e [] ty2 none 0 0 0 (fun _ _ => undef) hty2 (by simp) (by simp) (by simp) (by simp) (by simp)) (.sl e ty2 [] hty2 (by simp) (by simp) (by simp))⟩
      case h_8 e' a len cap heq =>
        cases heq
        simp only at h
        split at h
        case isFalse => cases h
        rename_i hc
        obtain ⟨-, hlc, hcm⟩ := hc
        obtain ⟨elems, hel, -⟩ := Option.bind_eq_some_iff.1 h
        have hlen : elems.length = len := by simpa using mapM_some_length hel
        have hone : ∀ i, i < len → ∃ csi ys, w.cells? 0 (a.add (i * P.cellsOf e)) (P.cellsOf e) = some csi ∧ CellsIs tab w ty2.kinds csi ys := by
          intro i hi
          have hg := mapM_some_get hel i i (by simp [hi])
          obtain ⟨y, hy⟩ : ∃ y, elems[i]? = some y := ⟨elems[i], by simp [hlen, hi]⟩
          rw [hy] at hg
          obtain ⟨csi, k1, k2⟩ := Option.bind_eq_some_iff.1 hg
          obtain ⟨ty3, ys, k3, k4⟩ := ih e he csi y k2
          obtain rfl : ty2 = ty3 := Option.some.inj (hty2.symm.trans k3)
          exact ⟨csi, ys, k1, k4⟩
        have hfull : ∀ i, ∃ csi ys, i < len → w.cells? 0 (a.add (i * P.cellsOf e)) (P.cellsOf e) = some csi ∧ CellsIs tab w ty2.kinds csi ys := fun i => by
          by_cases hi : i < len
          · obtain ⟨csi, ys, k⟩ := hone i hi; exact ⟨csi, ys, fun _ => k⟩
          · exact ⟨[], [], fun h => absurd h hi⟩
        have hfull' := Classical.axiomOfChoice hfull
        obtain ⟨C, hC⟩ := hfull'
        have hC' := Classical.axiomOfChoice hC
        obtain ⟨Y, hY⟩ := hC'
        let l : List V := (List.range len).map fun i => Eng.mk ty2.agg (Y i)
        have hll : l.length = len := by simp [l]
        have hget : ∀ i, i < len → l.getD i .dead = Eng.mk ty2.agg (Y i) := fun i hi => by simp [l, List.getD, hi]
        have hsh : ∀ i, i < l.length → Zbp ty2 (l.getD i .dead) := fun i hi => by
          rw [hll] at hi
          rw [hget i hi]; exact ((hY i hi).2.shape (hT e ty2 hty2)).1
        have hcl : ∀ i j, i < len → (l.getD i .dead).cell j = (Y i).getD j .dead := fun i j hi => by
          rw [hget i hi, V.cell, ((hY i hi).2.shape (hT e ty2 hty2)).2]
        have hw0 : ∀ i j, i < len → j < ty2.kinds.length → w.cell? ((a.add (i * ty2.kinds.length)).add j) = some ((C i).getD j undef) := fun i j hi hj => by
          obtain ⟨k1, k2⟩ := hY i hi
          obtain ⟨-, q2, q3⟩ := World.cells?_some k1
          have := q3 j (by omega)
          have hj' : j < (C i).length := by omega
          rw [List.getElem?_eq_getElem hj'] at this
          have e1 : (C i).getD j undef = (C i)[j] := by simp [List.getD, hj']
          rw [e1, ← this, hsz]
        have hspot : 0 < len → a.spot = none := fun h0 => by
          have := hw0 0 0 h0 hpos
          rw [Nat.zero_mul, add_zero', add_zero'] at this
          unfold World.cell? at this
          split at this
          · split at this
            · cases this
            · rename_i hn; simpa using hn
          · cases this
        have hw : ∀ i j, i < len → j < ty2.kinds.length → w.cell? ⟨a.block, a.off + i * ty2.kinds.length + j, none⟩ = some ((C i).getD j undef) ∧ a.block < w.heap.size := fun i j hi hj => by
          have := hw0 i j hi hj
          rw [add_plain (hspot (by omega)), add_plain rfl] at this
          exact ⟨this, World.block_lt_of_cell? (w := w) (a := ⟨a.block, a.off + i * ty2.kinds.length + j, none⟩) (h := this)⟩
        refine ⟨[.inl e l], hty, CellsIs.one ?_ ?_⟩
        · have := Rp.inl (tab := tab) (w := w) (ok := (· < w.heap.size)) e l ty2 (some a) cap a.block a.off (fun i j => (C i).getD j undef) hty2 (by omega) (fun hne => ?_) hsh (fun i j hi hj => ?_) (fun i j hi hj => ?_)
          · rw [hll] at this; exact this
          · have h0 : 0 < len := by rw [← hll]; exact List.length_pos_iff.2 hne
            refine ⟨?_, (hw 0 0 h0 hpos).2⟩
            have := hspot h0
            cases a; simp_all
          · rw [hll] at hi
            exact (hw i j hi hj).1
          · rw [hll] at hi
            rw [hcl i j hi]
            exact (hY i hi).2.2.2.1 j hj
        · refine .sl e ty2 l hty2 (by unfold maxLen at hcm; omega) hsh fun i j hi hj => ?_
          rw [hll] at hi
          rw [hcl i j hi]
          exact (hY i hi).2.2.2.2 j hj
      all_goals first | (cases h; done) | simp_all
    · rename_i fs hu
      simp only [Bool.and_eq_true, decide_eq_true_eq] at h1
      obtain ⟨ha, hf, hk⟩ := h1
      rw [hu] at h
      split at h
      case h_9 fs' heq =>
        cases heq
        split at h
        case isFalse => cases h
        rename_i hcl
        obtain ⟨xs, hx, -⟩ := Option.map_eq_some_iff.1 h
        obtain ⟨ys, hys⟩ := fields_read ih _ fs.toList 0 xs hf hx
        rw [← hk, List.drop_zero, List.take_of_length_le (by omega)] at hys
        exact ⟨ys, hty, hys⟩
      all_goals first | (cases h; done) | simp_all
    · cases h1
theorem arg_read (hT : Zv P tab) {R : List TypeId} (hR : readB P tab R = true) {t : TypeId} (ht : t ∈ R) {v : Value} {d : DataW H} {ps : List MemPlace} (hv : Value.okWide P w .any 0 t v) (h : DataW.Trod enc P w 0 sp held t v d ps) :
    ∃ x, WtT tab t x ∧ Rp tab w (· < w.heap.size) x v := by
  obtain ⟨n, hn⟩ := h
  obtain ⟨ty, ys, e1, e2⟩ := cells_read hT hR n t ht _ _ hn
  have hty := hT t ty e1
  obtain ⟨s1, s2⟩ := e2.shape hty
  refine ⟨Eng.mk ty.agg ys, ⟨ty, e1, s1, fun j hj => by rw [V.cell, s2]; exact e2.2.2.2 j hj⟩, ?_⟩
  cases ha : ty.agg with
  | true =>
    obtain ⟨fs, hu, -⟩ := hty.agg ha
    unfold Value.okWide at hv
    rw [hu] at hv
    obtain ⟨cs, rfl, -⟩ := hv
    have hl := e2.2.1
    have : Rp tab w (· < w.heap.size) (.agg ys) (.agg cs.toList.toArray) := .agg ys cs.toList (by
      have : cs.toList.length = ty.kinds.length := hl
      rw [this, e2.1]) fun j hj => e2.2.2.1 j (by rw [← e2.1]; exact hj)
    simpa [Eng.mk] using this
  | false =>
    obtain ⟨h1, -, dd, hu, hns, hna⟩ := hty.flat ha
    have hone : v.cells = #[v] := by
      cases v with
      | agg cs =>
        exfalso
        unfold Value.okWide at hv
        rw [hu] at hv
        have hv : Cell.okWide P w .any 0 t (.agg cs) := by
          cases dd <;> first | exact hv | exact absurd rfl (hns _) | exact absurd rfl (hna _ _)
        unfold Cell.okWide at hv
        rw [hu] at hv
        cases dd <;> first | exact hv | (simp [Cell.ok, hu] at hv)
      | _ => rfl
    have h0 := e2.2.2.1 0 (by omega)
    have hyl := e2.1
    obtain ⟨y, rfl⟩ : ∃ y, ys = [y] := by
      match ys, hyl with
      | [y], _ => exact ⟨y, rfl⟩
      | [], h => simp at h; omega
      | _ :: _ :: _, h => simp at h; omega
    rw [hone] at h0
    simpa [Eng.mk] using h0
inductive WtAll (tab : Tab) : List TypeId → List V → Prop where
  | nil : WtAll tab [] []
  | cons {t : TypeId} {ts : List TypeId} {x : V} {xs : List V} : WtT tab t x → WtAll tab ts xs → WtAll tab (t :: ts) (x :: xs)
theorem args_read (hT : Zv P tab) {R : List TypeId} (hR : readB P tab R = true) : ∀ {ts : List TypeId} {vs : List Value} {ds : List (DataW H)} {ps : List MemPlace}, (∀ t ∈ ts, t ∈ R) →
    (∀ (j : Nat) t v, ts[j]? = some t → vs[j]? = some v → Value.okWide P w .any 0 t v) → DataW.TrodAll enc P w 0 sp held ts vs ds ps →
    ∃ xs, WtAll tab ts xs ∧ RqL (Rq2 tab w (· < w.heap.size)) xs vs [] []
  | [], vs, ds, ps, _, _, h => by
    obtain ⟨rfl, rfl, rfl⟩ := trodAll_nil h
    exact ⟨[], .nil, .nil⟩
  | t :: ts, vs, ds, ps, hR', hv, h => by
    obtain ⟨v, vs1, d, ds1, a, b, rfl, rfl, rfl, h1, h2⟩ := trodAll_cons h
    obtain ⟨x, hx, hr⟩ := arg_read hT hR (hR' t (by simp)) (hv 0 t v rfl rfl) h1
    obtain ⟨xs, hxs, hrs⟩ := args_read hT hR (fun t ht => hR' t (by simp [ht])) (fun j t v h3 h4 => hv (j + 1) t v (by simpa using h3) (by simpa using h4)) h2
    exact ⟨x :: xs, .cons hx hxs, .cons (t := []) (n := []) (.one (.tree hr)) hrs⟩
end
section
variable {H : Type} {enc : TypeId × Value → H} {P : Program} {tab : Tab} {W W' : World}
theorem frozen_of (hk : KeptBut [] W W') {a : Addr} (h : a.block < W.heap.size) : W'.frozen? a = W.frozen? a := by
  unfold World.frozen?
  rw [hk.block a.block h (by simp)]
theorem same_of (hk : KeptBut [] W W') {p : MemPlace} (h : p.block < W.heap.size) : W.sameAt W' p := by
  cases p with
  | cell b off =>
    show W'.cell? _ = W.cell? _
    unfold World.cell?
    rw [hk.block b h (by simp)]
  | map b => exact hk.block b h (by simp)
theorem kept_of (hk : KeptBut [] W W') (may : MemPlace → Prop) : W.keptBut W' may := by
  refine ⟨hk.os, hk.output, fun i hi => ?_⟩
  rw [hk.block i hi (by simp)]
  split
  · rename_i c t fr c' t' fr' h1 h2
    rw [h1] at h2; cases h2
    exact ⟨rfl, rfl, rfl, fun _ _ => rfl⟩
  · rename_i es clock es' clock' h1 h2
    rw [h1] at h2; cases h2
    exact .inr ⟨rfl, rfl⟩
  · rfl
theorem trodAll_stays {T : TypeId → Prop} (K : Kids P T) (hz : ∀ {t e : TypeId}, T t → P.underlying t = some (.slice e) → 0 < P.cellsOf e) {sp' : Nat → Bool} :
    ∀ {ts : List TypeId} {vs : List Value} {ds : List (DataW H)} {ps : List MemPlace}, (∀ t ∈ ts, T t) → DataW.TrodAll enc P W 0 (fun _ => true) true ts vs ds ps → (∀ p ∈ ps, W.sameAt W' p) → (∀ p ∈ ps, sp' p.block = true) → DataW.TrodAll enc P W' 0 sp' true ts vs ds ps
  | [], [], [], _, _, h, _, _ => h
  | t :: _, _ :: _, _ :: _, _, hT, ⟨p, q, ⟨n, h1⟩, h2, e⟩, hs, hp => ⟨p, q, ⟨n, DataW.trod_stays K hz (fun h => by cases h) (hT t (by simp)) h1 (fun x hx => hs x (by rw [e]; exact List.mem_append_left _ hx)) (fun x hx => hp x (by rw [e]; exact List.mem_append_left _ hx))⟩,
      trodAll_stays K hz (fun t ht => hT t (by simp [ht])) h2 (fun x hx => hs x (by rw [e]; exact List.mem_append_right _ hx)) (fun x hx => hp x (by rw [e]; exact List.mem_append_right _ hx)), e⟩
theorem post_of_old {f : Func} {s : ChangeSpec} {apart fresh handsOn again : Bool} {args : Array Value} {v : Value} {ds gs : List (DataW H)} {before pa pv : List MemPlace}
    (hW : DataW.Whole enc P f.params.toList s.vars apart W args.toList ds gs before)
    (hres : ∀ (b : Nat) (sp : Nat → Bool) (hd : Bool), DataW.TrodAll enc P W' b sp hd f.resultTypes.toList (v.resultList f.resultTypes.size) (s.fn H (ds ++ gs)).results [])
    (hargs : ∀ sp : Nat → Bool, (∀ p ∈ before, sp p.block = true) → DataW.TrodAll enc P W' 0 sp true f.params.toList args.toList (s.fn H (ds ++ gs)).args pa)
    (hvars : ∀ sp : Nat → Bool, (∀ p ∈ before, sp p.block = true) → DataW.TrodVars enc P W' sp s.vars (s.fn H (ds ++ gs)).vars pv)
    (hps : before = pa ++ pv) (hk : W.keptBut W' (· ∈ before)) (hfz : ∀ a : Addr, a.block < W.heap.size → W'.frozen? a = W.frozen? a)
    (hok : ∀ (j : Nat) (t : TypeId) (r : Value), f.resultTypes[j]? = some t → (v.resultList f.resultTypes.size)[j]? = some r → Value.okWide P W' .any 0 t r) :
    s.post enc P f apart fresh handsOn again W args v W' := by
  have hlt := fun p hp => hW.lt p hp
  have hold : ∀ p ∈ before, (fun b => decide (b < W.heap.size)) p.block = true := fun p hp => by simpa using hW.lt p hp
  refine ⟨ds, gs, before, [], pa, pv, hW, hres _ _ _, hargs _ hold, hvars _ hold, World.keptBut_mono (fun p hp => ⟨hp, ?_⟩) hk, fun _ => ?_⟩
  · rw [hps, List.mem_append] at hp
    exact Or.inr hp
  · obtain ⟨_, _, _, _, _, hz, hn⟩ := hW
    refine ⟨hok, _, _, ([] ++ pa) ++ pv, ⟨[] ++ pa, pv, trodAll_append (hargs _ (fun _ _ => rfl)) (hres _ _ _), hvars _ (fun _ _ => rfl), rfl, ?_, ?_⟩, ?_⟩
    · intro b off hp
      have hp' : MemPlace.cell b off ∈ before := by rw [hps]; simpa using hp
      rw [hfz ⟨b, off, none⟩ (hlt _ hp')]
      exact hz b off hp'
    · intro ha
      have := hn ha
      rw [hps] at this
      simpa using this
    · intro p hp _
      rw [hps]
      simpa using hp
theorem law_contract (hT : Zv P tab) {R : List TypeId} (hR : readB P tab R = true) (hl : laidOutB P = true) (hm : mapsRowed P = true) (hz : ((List.range P.types.size).all fun t => match P.underlying t with | some (.slice e) => decide (0 < P.cellsOf e) | _ => true) = true)
    {f : FuncId} {fn : Func} {s : ChangeSpec} {apart fresh handsOn again : Bool} (hvars : s.vars = []) (hpar : (fn.params.toList.all fun t => R.contains t && decide (t < P.types.size)) = true)
    {tb : TypeId} (hres : fn.resultTypes = #[tb]) (htb : P.underlying tb = some .bool) (hsp : ∀ (ds : List (DataW H)), ds.length = fn.params.size → s.fn H ds = { results := [.lit (.bool true)], args := ds })
    (hS : ∀ xs, WtAll tab fn.params.toList xs → SumOk P tab f xs (.bool true, []))
    (args : Array Value) (ds gs : List (DataW H)) (before : List MemPlace)
    (hval : ∀ (j : Nat) t v, fn.params[j]? = some t → args[j]? = some v → Value.okWide P W .any 0 t v)
    (hW : DataW.Whole enc P fn.params.toList s.vars apart W args.toList ds gs before) :
    Calls P f args W fun e W' => ∃ v, e = .returned v ∧ s.post enc P fn apart fresh handsOn again W args v W' := by
  have hpar' : ∀ t ∈ fn.params.toList, t ∈ R ∧ t < P.types.size := fun t ht => by
    have := List.all_eq_true.1 hpar t ht
    simpa using this
  have hW' := hW
  obtain ⟨p, q, hA, hV, hb, hfz, hnd⟩ := hW'
  rw [hvars] at hV
  obtain ⟨rfl, rfl⟩ := trodVars_none hV
  have hA' : DataW.TrodAll enc P W 0 (fun _ => true) true fn.params.toList args.toList ds p := hA
  obtain ⟨xs, hxs, hrq⟩ := args_read hT hR (fun t ht => (hpar' t ht).1) (fun j t v h1 h2 => hval j t v (by simpa using h1) (by simpa using h2)) hA'
  have hlen : ds.length = fn.params.size := by
    have : ∀ {ts : List TypeId} {vs : List Value} {ds : List (DataW H)} {ps : List MemPlace}, DataW.TrodAll enc P W 0 (fun _ => true) true ts vs ds ps → ds.length = ts.length := by
      intro ts
      induction ts with
      | nil => intro vs ds ps h; obtain ⟨rfl, rfl, rfl⟩ := trodAll_nil h; rfl
      | cons t ts ih =>
        intro vs ds ps h
        obtain ⟨v, vs1, d, ds1, a, b, rfl, rfl, rfl, h1, h2⟩ := trodAll_cons h
        simp [ih h2]
    simpa using this hA'
  have hcall := hS xs hxs W (· < W.heap.size) args.toList [] [] hrq (by simp) (fun g hg => ⟨hg, by simp⟩) (by simp)
  refine Calls.mono hcall ?_
  rintro e W' ⟨val, rfl, rt, rn, ot, on, r1, r2, h1, h2, h3, h4, hk⟩
  have hval' : val = .bool true := by
    cases r1 with | one r1 => cases r1 with | one r1 => cases r1 with | tree r1 => cases r1; rfl
  subst hval'
  refine ⟨_, rfl, ?_⟩
  have hlt : ∀ x ∈ before, x.block < W.heap.size := fun x hx => hW.lt x hx
  refine post_of_old (pa := before) (pv := []) hW (fun b sp hd => ?_) (fun sp hsp' => ?_) (fun sp _ => ?_) (by simp) (kept_of hk _) (fun a ha => frozen_of hk ha) (fun j t r hj hr => ?_)
  · rw [List.append_nil, hsp ds hlen, hres]
    refine ⟨[], [], ⟨1, ?_⟩, rfl, rfl⟩
    show DataW.trod enc P W' b sp hd 1 tb [.bool true] = _
    unfold DataW.trod
    rw [htb]
  · rw [List.append_nil, hsp ds hlen]
    rw [hb, List.append_nil] at hsp' hlt ⊢
    exact trodAll_stays (kids_rows hl hm) (fun {t e} h1 h2 => slices_full_of P hz t e h1 h2) (fun t ht => (hpar' t ht).2) hA' (fun x hx => same_of hk (hlt x hx)) hsp'
  · rw [List.append_nil, hsp ds hlen, hvars]
    exact rfl
  · rw [hres] at hj hr
    have hj0 : j = 0 ∧ t = tb := by
      cases j with
      | zero => simpa using hj.symm
      | succ j => simp at hj
    obtain ⟨rfl, rfl⟩ := hj0
    have : r = .bool true := by
      simpa [Value.resultList] using hr.symm
    subst this
    simp [Value.okWide, htb, Cell.okWide, Cell.ok]
end
end Go.Eng
namespace Go.Eng
section
variable {tab : Tab} {T : TypeId} {x : V}
theorem WtT.cell (h : WtT tab T x) (j : Nat) {k : Ck} (hk : ((tab T).bind fun ty => ty.kinds[j]?) = some k) : Wt tab k (x.cell j) := by
  obtain ⟨ty, h1, h2, h3⟩ := h
  rw [h1, Option.bind_some] at hk
  have hj := (List.getElem?_eq_some_iff.1 hk).1
  have := h3 j hj
  rwa [show ty.kinds.getD j .other = k from by simp [List.getD, hk]] at this
theorem WtT.eta (h : WtT tab T x) {ty : Ty} (ht : tab T = some ty) : x = Eng.mk ty.agg (Zaf ty.kinds x 0) := by
  obtain ⟨ty', h1, h2, h3⟩ := h
  obtain rfl := Option.some.inj (ht.symm.trans h1)
  rw [ZdO h2, mk_cells h2]
theorem wt_u8 {v : V} (h : Wt tab (.int .u8) v) : 0 ≤ v.I ∧ v.I ≤ 255 := by
  cases h with | int k n h =>
  simp [Lit.wf, IntKind.min, IntKind.max, IntKind.signed, IntKind.bits] at h
  exact h
theorem wt_sl {v : V} {e : TypeId} (h : Wt tab (.sl e) v) {w : V → Prop} (hw : ∀ y, WtT tab e y → w y) : LW w v.L := by
  cases h with | sl _ ty l h1 h2 h3 h4 =>
  refine ⟨h2, fun y hy => hw y ?_⟩
  have hy : y ∈ l := hy
  obtain ⟨i, hi, rfl⟩ := List.getElem_of_mem hy
  have e1 : l.getD i .dead = l[i] := by simp [List.getD, hi]
  exact ⟨ty, h1, by rw [← e1]; exact h3 i hi, fun j hj => by rw [← e1]; exact h4 i j hi hj⟩
theorem WtAll.one {t : TypeId} {xs : List V} (h : WtAll tab [t] xs) : ∃ a, xs = [a] ∧ WtT tab t a := by
  cases h with | cons h1 h2 => cases h2; exact ⟨_, rfl, h1⟩
end
end Go.Eng
namespace Go.Eng
variable {P : Program}
theorem Zcf (w : World) (dT sT ty elem : TypeId) (sz : Nat) (g o dLen dCap : Nat) (a : Addr) (sLen sCap : Nat) (cur : Array Value) (t : TypeId) (cs : List Value)
    (hu : P.underlying dT = some (.slice elem)) (hs : (P.info? elem).map (·.size) = some sz)
    (hg : w.heap[g]? = some (.cells cur t (0, 0))) (hn : cs.length = Nat.min sLen dLen * sz)
    (hsrc : ∀ j v, cs[j]? = some v → w.cell? (a.add j) = some v) (hfit : o + cs.length ≤ cur.size) (h1 : ∀ v ∈ cs, v.oneCell' = true) :
    (Builtin.copy_ #[dT, sT] ty #[.slice (some ⟨g, o, none⟩) dLen dCap, .slice (some a) sLen sCap]).run P w =
      .ok (goInt (Nat.min sLen dLen)) (w.setRow g (cur.toList.take o ++ cs ++ cur.toList.drop (o + cs.length)).toArray) := by
  have hl := run_loadCells_list (P := P) w a cs hsrc
  have hst := run_storeCells_at P g o t cs 0 cur w hg (by simpa using hfit) h1
  cases hq : P.info? elem with
  | none => simp [hq] at hs
  | some i =>
    have hi : i.size = sz := by simpa [hq] using hs
    simp [Builtin.copy_, run_underlying hu, Builtin.lenOf, Builtin.firstCells, sizeOf, typeInfo, hq, hi, ← hn, hl, hst]
theorem ZdR (w : World) (t e ty : TypeId) (z : Value) (sz : Nat) (hu : P.underlying t = some (.slice e)) (hv : ∀ w, (zeroValue e).run P w = .ok z w) (hz : z.cells.size = sz) (h1 : ∀ v ∈ z.cells, v.oneCell' = true) (hsz : 0 < sz)
    (g o n : Nat) (hn : 0 < n) (cur : Array Value) (T : TypeId) (hg : w.heap[g]? = some (.cells cur T (0, 0))) (hfit : o + n * sz ≤ cur.size) :
    ∃ tl : List Value, tl.length = n * sz ∧ ∀ c, (Builtin.clear_ #[t] ty #[.slice (some ⟨g, o, none⟩) n c]).run P w = .ok (.tuple #[]) (w.setRow g (cur.toList.take o ++ tl ++ cur.toList.drop (o + tl.length)).toArray) := by
  refine ⟨(Builtin.zeroCells z.cells n).toList, by rw [Array.length_toList, size_zeroCells, hz], fun c => ?_⟩
  have hl : (Builtin.zeroCells z.cells n).toList.length = n * sz := by rw [Array.length_toList, size_zeroCells, hz]
  have hst := run_storeCells_at P g o T (Builtin.zeroCells z.cells n).toList 0 cur w hg (by rw [hl]; simpa using hfit) (fun v hv' => by
    simp only [Builtin.zeroCells, Array.toList_map, List.mem_map] at hv'
    obtain ⟨k, hk, rfl⟩ := hv'
    have hlt : k % z.cells.size < z.cells.size := Nat.mod_lt _ (by omega)
    rw [getElem!_pos z.cells _ hlt]
    exact h1 _ (Array.getElem_mem hlt))
  simp only [Nat.add_zero] at hst
  obtain ⟨m, rfl⟩ : ∃ m, n = m + 1 := ⟨n - 1, by omega⟩
  simp [Builtin.clear_, run_underlying hu, hv, hst]
section
variable {w : World} {ops : Array Oper} {rest : List Oper} {o : Oper} {a : Act} {Q : Exit → Act → World → Prop}
theorem Zdj (hgd : o.guard = none) (d s : Operand) (t t' : TypeId)
    (ho : o.op = .call { callee := .builtin .copy, args := #[d, s], argTypes := #[t, t'] }) (v u : Value) (hd : a.eval d = v) (hs : a.eval s = u) {v' : Value} {w' : World}
    (hr : (Builtin.copy_ #[t, t'] o.type #[v, u]).run P w = .ok v' w') (h : wpList P ops Q rest (a.put o.dst v') w') : wpList P ops Q (o :: rest) a w :=
  wpList_plain hgd fun _ hK => by
    unfold Oper.wp execOp
    simp only [ho, resolve, invoke, builtin, Sem.run_bind, Sem.run_pure, Result.andThen_ok, List.map_toArray, List.map_cons, List.map_nil, hd, hs, hr]
    exact hK _ _ h
theorem Zal (hgd : o.guard = none) (d : Operand) (t : TypeId)
    (ho : o.op = .call { callee := .builtin .clear, args := #[d], argTypes := #[t] }) (v : Value) (hd : a.eval d = v) {v' : Value} {w' : World}
    (hr : (Builtin.clear_ #[t] o.type #[v]).run P w = .ok v' w') (h : wpList P ops Q rest (a.put o.dst v') w') : wpList P ops Q (o :: rest) a w :=
  wpList_plain hgd fun _ hK => by
    unfold Oper.wp execOp
    simp only [ho, resolve, invoke, builtin, Sem.run_bind, Sem.run_pure, Result.andThen_ok, List.map_toArray, List.map_cons, List.map_nil, hd, hr]
    exact hK _ _ h
theorem ZdS {K : Act → World → Prop} {E : Prop}
    (hg : o.guard = none) (d x : Operand) (dT sT : TypeId) (hop : o.op = Op.call { callee := Callee.builtin Builtin.copy, args := #[d, x], argTypes := #[dT, sT] })
    (v u : Value) (hd : a.eval d = v) (hx : a.eval x = u) {v' : Value} {w' : World} (hr : (Builtin.copy_ #[dT, sT] o.type #[v, u]).run P w = .ok v' w') (hK : K (a.put o.dst v') w') :
    if Region.wanted o (yielded ops a.tmps) = true then Oper.wp P o a w K Q else E := by
  have hw : Region.wanted o (yielded ops a.tmps) = true := by simp [Region.wanted, hg]
  rw [if_pos hw]
  unfold Oper.wp
  simp [execOp, hop, resolve, invoke, builtin, hd, hx, hr, Result.andThen]
  exact hK
theorem Zdk {K : Act → World → Prop} {E : Prop}
    (hg : o.guard = none) (d x : Operand) (dT sT : TypeId) (hop : o.op = Op.call { callee := Callee.builtin Builtin.append, args := #[d, x], argTypes := #[dT, sT] })
    (v u : Value) (hd : a.eval d = v) (hx : a.eval x = u) {v' : Value} {w' : World} (hr : (Builtin.append_ #[dT, sT] o.type #[v, u]).run P w = .ok v' w') (hK : K (a.put o.dst v') w') :
    if Region.wanted o (yielded ops a.tmps) = true then Oper.wp P o a w K Q else E := by
  have hw : Region.wanted o (yielded ops a.tmps) = true := by simp [Region.wanted, hg]
  rw [if_pos hw]
  unfold Oper.wp
  simp [execOp, hop, resolve, invoke, builtin, hd, hx, hr, Result.andThen]
  exact hK
end
def OneL (l : List Value) : Prop := ∀ v ∈ l, v.oneCell' = true
def DelOk (P : Program) (f : FuncId) (T : TypeId) (sz : Nat) : Prop :=
  ∀ (g n cap i j : Nat) (cur : Array Value) (w : World), w.heap[g]? = some (.cells cur T (0, 0)) → cur.size = cap * sz → n ≤ cap → cap ≤ maxLen → OneL (cur.toList.take (n * sz)) → i < j → j ≤ n →
    Calls P f #[.slice (some ⟨g, 0, none⟩) n cap, .int .i64 i, .int .i64 j] w fun e w' => e = .returned (.slice (some ⟨g, 0, none⟩) (n - (j - i)) cap) ∧
      ∃ cur' : Array Value, w'.heap[g]? = some (.cells cur' T (0, 0)) ∧ cur'.size = cap * sz ∧ cur'.toList.take ((n - (j - i)) * sz) = (cur.toList.take (n * sz)).take (i * sz) ++ (cur.toList.take (n * sz)).drop (j * sz) ∧ KeptBut [g] w w'
def DelSame (P : Program) (f : FuncId) : Prop :=
  ∀ (a : Option Addr) (n cap i : Nat) (w : World), i ≤ n → n ≤ cap → cap ≤ maxLen → Calls P f #[.slice a n cap, .int .i64 i, .int .i64 i] w fun e w' => e = .returned (.slice a n cap) ∧ KeptBut [] w w'
end Go.Eng
namespace Go.Eng
variable {P : Program}
theorem ZaO {w : World} {g o m : Nat} {cur : Array Value} {T : TypeId} (hg : w.heap[g]? = some (.cells cur T (0, 0))) (h : o + m ≤ cur.size) :
    ∀ j v, ((cur.toList.drop o).take m)[j]? = some v → w.cell? ((⟨g, o, none⟩ : Addr).add j) = some v := by
  intro j v hv
  rw [List.getElem?_take] at hv
  split at hv
  · rename_i hj
    rw [List.getElem?_drop] at hv
    rw [Addr.add_none]
    have hlt := (List.getElem?_eq_some_iff.1 hv).1
    have : o + j < cur.size := by simpa using hlt
    have e := (List.getElem?_eq_some_iff.1 hv).2
    simp [World.cell?, hg, this]
    simpa using e
  · cases hv
def InsOk (P : Program) (f : FuncId) (T : TypeId) (sz bytes : Nat) : Prop :=
  ∀ (w : World) (v v2 : Value) (n i : Nat) (xs ys : List Value), RowIs w T sz n v xs → RowIs w T sz 1 v2 ys → (∀ g ∈ Zo v, g ∉ Zo v2) → OneL xs → OneL ys → i ≤ n → (n + 1) * bytes ≤ 140737488355328 →
    n + 1 ≤ 9223372036854775807 → Calls P f #[v, .int .i64 i, v2] w fun e w' => ∃ v', e = .returned v' ∧ RowIs w' T sz (n + 1) v' (xs.take (i * sz) ++ ys ++ xs.drop (i * sz)) ∧ KeptBut (Zo v) w w' ∧ ∀ g ∈ Zo v', g ∈ Zo v ∨ w.heap.size ≤ g
end Go.Eng
namespace Go.Eng
theorem ins_list {α : Type} {cur y tl c1 c2 : List α} {a s : Nat} (ha : a + s ≤ cur.length) (hy : y.length = s) (h1 : c1 = cur.take (a + s) ++ tl ++ cur.drop (a + s + tl.length)) (h2 : c2 = c1.take a ++ y ++ c1.drop (a + s)) :
    c2.take (a + s + tl.length) = cur.take a ++ y ++ tl := by
  have e1 : c1.take a = cur.take a := by
    rw [h1, List.append_assoc, List.take_append_of_le_length (by simp; omega), List.take_take, Nat.min_eq_left (by omega)]
  have e2 : c1.drop (a + s) = tl ++ cur.drop (a + s + tl.length) := by
    rw [h1, List.append_assoc]; exact List.drop_left' (by simp; omega)
  rw [h2, e1, e2, ← List.append_assoc]
  exact List.take_left' (by simp; omega)
theorem mid_eq {α : Type} (l : List α) (a b : Nat) : (l.drop a).take (b - a) = (l.take b).drop a := by rw [List.drop_take]
end Go.Eng
namespace Go.Eng
theorem KeptBut.fresh {w w' : World} {F : List Nat} (h : KeptBut F w w') (hF : ∀ g ∈ F, w.heap.size ≤ g) : KeptBut [] w w' :=
  ⟨h.os, h.tape, h.output, h.size, fun g hg _ => h.block g hg fun hm => by have := hF g hm; omega⟩
theorem ins_list2 {α : Type} {row y tl c2 c3 : List α} {a s : Nat} (ha : a + s + tl.length ≤ row.length) (hy : y.length = s) (h2 : c2 = row.take a ++ y ++ row.drop (a + s)) (h3 : c3 = c2.take (a + s) ++ tl ++ c2.drop (a + s + tl.length)) :
    c3.take (a + s + tl.length) = row.take a ++ y ++ tl := by
  have e1 : c2.take (a + s) = row.take a ++ y := by rw [h2]; exact List.take_left' (by simp; omega)
  rw [h3, e1]
  exact List.take_left' (by simp; omega)
end Go.Eng
namespace Go.Eng
variable {P : Program}
def InsRoom (P : Program) (f : FuncId) (T : TypeId) (sz : Nat) : Prop :=
  ∀ (w : World) (g n cap i h caph : Nat) (cur curh : Array Value), w.heap[g]? = some (.cells cur T (0, 0)) → cur.size = cap * sz → cap ≤ maxLen → OneL (cur.toList.take (n * sz)) →
    w.heap[h]? = some (.cells curh T (0, 0)) → curh.size = caph * sz → 1 ≤ caph → h ≠ g → OneL (curh.toList.take sz) → i < n → n + 1 ≤ cap →
    Calls P f #[.slice (some ⟨g, 0, none⟩) n cap, .int .i64 i, .slice (some ⟨h, 0, none⟩) 1 caph] w fun e w' => e = .returned (.slice (some ⟨g, 0, none⟩) (n + 1) cap) ∧
      ∃ cur' : Array Value, w'.heap[g]? = some (.cells cur' T (0, 0)) ∧ cur'.size = cap * sz ∧ cur'.toList.take ((n + 1) * sz) = (cur.toList.take (n * sz)).take (i * sz) ++ curh.toList.take sz ++ (cur.toList.take (n * sz)).drop (i * sz) ∧ KeptBut [g] w w'
def InsGrow (P : Program) (f : FuncId) (T : TypeId) (sz bytes : Nat) : Prop :=
  ∀ (w : World) (g n cap i h caph : Nat) (cur curh : Array Value), w.heap[g]? = some (.cells cur T (0, 0)) → cur.size = cap * sz → cap ≤ maxLen → OneL (cur.toList.take (n * sz)) →
    w.heap[h]? = some (.cells curh T (0, 0)) → curh.size = caph * sz → 1 ≤ caph → OneL (curh.toList.take sz) → i < n → n ≤ cap → cap < n + 1 → (n + 1) * bytes ≤ 140737488355328 →
    Calls P f #[.slice (some ⟨g, 0, none⟩) n cap, .int .i64 i, .slice (some ⟨h, 0, none⟩) 1 caph] w fun e w' => ∃ cap', e = .returned (.slice (some ⟨w.heap.size, 0, none⟩) (n + 1) cap') ∧ n + 1 ≤ cap' ∧ cap' ≤ maxLen ∧
      ∃ cur' : Array Value, w'.heap[w.heap.size]? = some (.cells cur' T (0, 0)) ∧ cur'.size = cap' * sz ∧ cur'.toList.take ((n + 1) * sz) = (cur.toList.take (n * sz)).take (i * sz) ++ curh.toList.take sz ++ (cur.toList.take (n * sz)).drop (i * sz) ∧ KeptBut [] w w'
def InsEnd (P : Program) (f : FuncId) (T : TypeId) (sz bytes : Nat) : Prop :=
  ∀ (w : World) (v v2 : Value) (n : Nat) (xs ys : List Value), RowIs w T sz n v xs → RowIs w T sz 1 v2 ys → OneL ys → (n + 1) * bytes ≤ 140737488355328 → n + 1 ≤ 9223372036854775807 →
    Calls P f #[v, .int .i64 n, v2] w fun e w' => ∃ v', e = .returned v' ∧ RowIs w' T sz (n + 1) v' (xs ++ ys) ∧ KeptBut (Zo v) w w' ∧ ∀ g ∈ Zo v', g ∈ Zo v ∨ g = w.heap.size
theorem rowIs_some {w : World} {T : TypeId} {sz n : Nat} {g cap : Nat} {cur : Array Value} {xs : List Value} (hc : 0 < cap) (hg : w.heap[g]? = some (.cells cur T (0, 0))) (hn : n ≤ cap) (hm : cap ≤ maxLen) (hs : cur.size = cap * sz) (hx : cur.toList.take (n * sz) = xs) :
    RowIs w T sz n (.slice (some ⟨g, 0, none⟩) n cap) xs :=
  ⟨by rw [← hx, List.length_take, Array.length_toList, hs]; exact Nat.min_eq_left (Nat.mul_le_mul_right _ hn), .inr ⟨g, cap, cur, rfl, hc, .of hg, hn, hm, hs, hx⟩⟩
theorem Zcg (g n cap : Nat) (hc : 0 < cap) : Zo (.slice (some ⟨g, 0, none⟩) n cap) = [g] := by
  obtain ⟨c, rfl⟩ : ∃ c, cap = c + 1 := ⟨cap - 1, by omega⟩
  rfl
theorem ins_ok {f : FuncId} {T : TypeId} {sz bytes : Nat} (hR : InsRoom P f T sz) (hG : InsGrow P f T sz bytes) (hE : InsEnd P f T sz bytes) (hne : Nat.beq T Zbg = false := by rfl) : InsOk P f T sz bytes := by
  have hmk : T ≠ Zbg := fun e => by rw [e, Nat.beq_refl] at hne; cases hne
  intro w v v2 n i xs ys hr hr2 hd h1 h1h hi hbig h63
  by_cases hin : i = n
  · subst hin
    refine (hE w v v2 i xs ys hr hr2 h1h hbig h63).mono ?_
    rintro e w' ⟨v', rfl, k1, k2, k3⟩
    refine ⟨v', rfl, ?_, k2, fun g hg => ?_⟩
    · rw [List.take_of_length_le (by rw [hr.1]; exact Nat.le_refl _), List.drop_of_length_le (by rw [hr.1]; exact Nat.le_refl _), List.append_nil]; exact k1
    · rcases k3 g hg with h | h
      · exact .inl h
      · exact .inr (by omega)
  · have hlt : i < n := by omega
    rcases hr.2 with ⟨a, rfl, h0⟩ | ⟨g, cap, cur, rfl, hc, hg, hn, hm, hs, hx⟩
    · omega
    rcases hr2.2 with ⟨a, rfl, h0⟩ | ⟨h, caph, curh, rfl, hch, hh, hn2, hm2, hs2, hx2⟩
    · omega
    have hne : h ≠ g := fun e => hd g (by rw [Zcg _ _ _ hc]; simp) (by rw [Zcg _ _ _ hch, e]; simp)
    rw [Nat.one_mul] at hx2
    subst hx; subst hx2
    have hg := hg.zero hmk
    have hh := hh.zero hmk
    by_cases hroom : n + 1 ≤ cap
    · refine (hR w g n cap i h caph cur curh hg hs hm h1 hh hs2 hn2 hne h1h hlt hroom).mono ?_
      rintro e w' ⟨rfl, cur', k1, k2, k3, k4⟩
      refine ⟨_, rfl, rowIs_some hc k1 hroom hm k2 k3, by rw [Zcg _ _ _ hc]; exact k4, fun g' hg' => .inl ?_⟩
      rw [Zcg _ _ _ hc] at hg' ⊢; exact hg'
    · refine (hG w g n cap i h caph cur curh hg hs hm h1 hh hs2 hn2 h1h hlt hn (by omega) hbig).mono ?_
      rintro e w' ⟨cap', rfl, k0, k0', cur', k1, k2, k3, k4⟩
      refine ⟨_, rfl, rowIs_some (by omega) k1 k0 k0' k2 k3, k4.mono (by simp), fun g' hg' => .inr ?_⟩
      rw [Zcg _ _ _ (by omega)] at hg'; simp at hg'; omega
section
variable {tab : Tab}
structure Els (tab : Tab) (w : World) (ok : Nat → Prop) (ty : Ty) (own : Bool) (l : List V) (xs : List Value) (F : Nat → Nat → List Nat) : Prop where
  len : xs.length = l.length * ty.kinds.length
  shape : ∀ i, i < l.length → Zbp ty (l.getD i .dead)
  yes : own = true → ∀ i j, i < l.length → j < ty.kinds.length → Ro tab w ((l.getD i .dead).cell j) (xs.getD (i * ty.kinds.length + j) undef) (F i j)
  no : own = false → (∀ i j, F i j = []) ∧ ∀ i j, i < l.length → j < ty.kinds.length → Rp tab w ok ((l.getD i .dead).cell j) (xs.getD (i * ty.kinds.length + j) undef)
theorem RowT.els {w : World} {ok : Nat → Prop} {T : TypeId} {own : Bool} {l : List V} {v : Value} {nest : List Nat} (h : RowT tab w ok T own l v nest) {ty : Ty} (ht : tab T = some ty) :
    ∃ xs F, RowIs w T ty.kinds.length l.length v xs ∧ Els tab w ok ty own l xs F ∧ nest = Zx l.length ty.kinds.length F := by
  obtain ⟨ty', xs, ht', hr, hs, he⟩ := h
  obtain rfl := Option.some.inj (ht.symm.trans ht')
  rcases he with ⟨ho, F, hn, he⟩ | ⟨ho, hn, he⟩
  · exact ⟨xs, F, hr, ⟨hr.1, hs, fun _ => he, fun h => by rw [ho] at h; cases h⟩, hn⟩
  · refine ⟨xs, fun _ _ => [], hr, ⟨hr.1, hs, fun h => by rw [ho] at h; (cases h), fun _ => ⟨fun _ _ => rfl, he⟩⟩, ?_⟩
    rw [hn]; simp [Zx]
theorem Els.row {w : World} {ok : Nat → Prop} {T : TypeId} {own : Bool} {l : List V} {v : Value} {ty : Ty} (ht : tab T = some ty) {xs : List Value} {F : Nat → Nat → List Nat} (hr : RowIs w T ty.kinds.length l.length v xs) (h : Els tab w ok ty own l xs F) :
    RowT tab w ok T own l v (Zx l.length ty.kinds.length F) := by
  refine ⟨ty, xs, ht, hr, h.shape, ?_⟩
  cases ho : own with
  | true => exact .inl ⟨rfl, F, rfl, h.yes ho⟩
  | false =>
    obtain ⟨h1, h2⟩ := h.no ho
    refine .inr ⟨rfl, ?_, h2⟩
    simp [Zx, h1]
theorem Els.keep {w w' : World} {ok ok' : Nat → Prop} {own : Bool} {l : List V} {ty : Ty} {xs : List Value} {F : Nat → Nat → List Nat} (h : Els tab w ok ty own l xs F) (hok : ∀ g, ok g → ok' g) (hw : ∀ g, ok g → w'.heap[g]? = w.heap[g]?)
    (hF : ∀ i j, i < l.length → j < ty.kinds.length → ∀ g ∈ F i j, w'.heap[g]? = w.heap[g]?) : Els tab w' ok' ty own l xs F :=
  ⟨h.len, h.shape, fun ho i j hi hj => (h.yes ho i j hi hj).keep (hF i j hi hj), fun ho => ⟨(h.no ho).1, fun i j hi hj => ((h.no ho).2 i j hi hj).keep hok hw⟩⟩
theorem Els.one {w : World} {ok : Nat → Prop} {own : Bool} {l : List V} {ty : Ty} {xs : List Value} {F : Nat → Nat → List Nat} (h : Els tab w ok ty own l xs F) : OneL xs := by
  intro v hv
  obtain ⟨k, hk, rfl⟩ := List.getElem_of_mem hv
  rw [h.len] at hk
  obtain ⟨h1, h2, h3⟩ := divmod_idx hk
  have e : xs.getD (k / ty.kinds.length * ty.kinds.length + k % ty.kinds.length) undef = xs[k] := by rw [h3]; simp [List.getD, h.len, hk]
  rw [← e]
  cases ho : own with
  | true => exact (h.yes ho _ _ h1 h2).oneCell
  | false => exact ((h.no ho).2 _ _ h1 h2).oneCell _ ((h.shape _ h1).2.2.2 _ h2)
theorem Els.pick {w : World} {ok : Nat → Prop} {own : Bool} {l : List V} {ty : Ty} {xs : List Value} {F : Nat → Nat → List Nat} (h : Els tab w ok ty own l xs F) (φ : Nat → Nat) {l' : List V} {xs' : List Value}
    (hlen : xs'.length = l'.length * ty.kinds.length) (hφ : ∀ k, k < l'.length → φ k < l.length) (hl : ∀ k, k < l'.length → l'.getD k .dead = l.getD (φ k) .dead)
    (hx : ∀ k c, k < l'.length → c < ty.kinds.length → xs'.getD (k * ty.kinds.length + c) undef = xs.getD (φ k * ty.kinds.length + c) undef) : Els tab w ok ty own l' xs' (fun k c => F (φ k) c) :=
  ⟨hlen, fun k hk => by rw [hl k hk]; exact h.shape _ (hφ k hk), fun ho k c hk hc => by rw [hl k hk, hx k c hk hc]; exact h.yes ho _ _ (hφ k hk) hc,
   fun ho => ⟨fun k c => (h.no ho).1 _ _, fun k c hk hc => by rw [hl k hk, hx k c hk hc]; exact (h.no ho).2 _ _ (hφ k hk) hc⟩⟩
theorem Els.append {w : World} {ok : Nat → Prop} {own : Bool} {l l' : List V} {ty : Ty} {xs xs' : List Value} {F F' : Nat → Nat → List Nat} (h : Els tab w ok ty own l xs F) (h' : Els tab w ok ty own l' xs' F') :
    Els tab w ok ty own (l ++ l') (xs ++ xs') (fun k c => if k < l.length then F k c else F' (k - l.length) c) := by
  have hg1 : ∀ k, k < l.length → (l ++ l').getD k .dead = l.getD k .dead := fun k hk => by simp only [List.getD, List.getElem?_append_left hk]
  have hg2 : ∀ k, ¬ k < l.length → (l ++ l').getD k .dead = l'.getD (k - l.length) .dead := fun k hk => by simp [List.getD, List.getElem?_append_right (Nat.le_of_not_lt hk)]
  have hx1 : ∀ k c, k < l.length → c < ty.kinds.length → (xs ++ xs').getD (k * ty.kinds.length + c) undef = xs.getD (k * ty.kinds.length + c) undef := fun k c hk hc => by
    have : k * ty.kinds.length + c < xs.length := by rw [h.len]; exact Zbh hk hc
    simp only [List.getD, List.getElem?_append_left this]
  have hx2 : ∀ k c, ¬ k < l.length → c < ty.kinds.length → (xs ++ xs').getD (k * ty.kinds.length + c) undef = xs'.getD ((k - l.length) * ty.kinds.length + c) undef := fun k c hk hc => by
    have e : l.length * ty.kinds.length ≤ k * ty.kinds.length := Nat.mul_le_mul_right _ (Nat.le_of_not_lt hk)
    have : xs.length ≤ k * ty.kinds.length + c := by rw [h.len]; omega
    simp only [List.getD, List.getElem?_append_right this]
    rw [h.len, Nat.sub_mul, show k * ty.kinds.length + c - l.length * ty.kinds.length = k * ty.kinds.length - l.length * ty.kinds.length + c from by omega]
  refine ⟨by simp [h.len, h'.len, Nat.add_mul], fun k hk => ?_, fun ho k c hk hc => ?_, fun ho => ⟨fun k c => ?_, fun k c hk hc => ?_⟩⟩
  · by_cases hk' : k < l.length
    · rw [hg1 k hk']; exact h.shape k hk'
    · rw [hg2 k hk']; exact h'.shape _ (by simp at hk; omega)
  · by_cases hk' : k < l.length
    · rw [hg1 k hk', hx1 k c hk' hc, if_pos hk']; exact h.yes ho k c hk' hc
    · rw [hg2 k hk', hx2 k c hk' hc, if_neg hk']; exact h'.yes ho _ c (by simp at hk; omega) hc
  · split
    · exact (h.no ho).1 _ _
    · exact (h'.no ho).1 _ _
  · by_cases hk' : k < l.length
    · rw [hg1 k hk', hx1 k c hk' hc]; exact (h.no ho).2 k c hk' hc
    · rw [hg2 k hk', hx2 k c hk' hc]; exact (h'.no ho).2 _ c (by simp at hk; omega) hc
theorem getD_take' {α : Type} {l : List α} {n i : Nat} {d : α} (h : i < n) : (l.take n).getD i d = l.getD i d := by simp [List.getD, h]
theorem getD_drop' {α : Type} {l : List α} {n i : Nat} {d : α} : (l.drop n).getD i d = l.getD (n + i) d := by simp [List.getD]
theorem Els.take {w : World} {ok : Nat → Prop} {own : Bool} {l : List V} {ty : Ty} {xs : List Value} {F : Nat → Nat → List Nat} (h : Els tab w ok ty own l xs F) {n : Nat} (hn : n ≤ l.length) : Els tab w ok ty own (l.take n) (xs.take (n * ty.kinds.length)) F := by
  refine h.pick id (by rw [List.length_take, List.length_take, h.len, Nat.min_eq_left hn, Nat.min_eq_left (Nat.mul_le_mul_right _ hn)]) (fun k hk => by simp at hk; exact (by omega : k < l.length)) (fun k hk => ?_) fun k c hk hc => ?_
  · exact getD_take' (by simp at hk; omega)
  · exact getD_take' (Zbh (by simp at hk; omega) hc)
theorem Els.drop {w : World} {ok : Nat → Prop} {own : Bool} {l : List V} {ty : Ty} {xs : List Value} {F : Nat → Nat → List Nat} (h : Els tab w ok ty own l xs F) (n : Nat) : Els tab w ok ty own (l.drop n) (xs.drop (n * ty.kinds.length)) (fun k c => F (n + k) c) := by
  refine h.pick (fun k => n + k) (by simp [h.len, Nat.sub_mul]) (fun k hk => by simp at hk; omega) (fun k hk => getD_drop') fun k c hk hc => ?_
  rw [getD_drop', Nat.add_mul, Nat.add_assoc]
def delV (l : List V) (i j : Int) : Option (List V) := bif decide (0 ≤ i) && (decide (i ≤ j) && (decide (j ≤ (l.length : Int)) && decide (l.length ≤ 9223372036854775807))) then some (l.take i.toNat ++ l.drop j.toNat) else none
def insV (bytes : Nat) (l : List V) (i : Int) (x : List V) : Option (List V) := bif decide (0 ≤ i) && (decide (i ≤ (l.length : Int)) && (decide (x.length = 1) && Zu (l.length + 1) bytes)) then some (l.take i.toNat ++ x ++ l.drop i.toNat) else none
theorem flatF_sub {n m n' m' : Nat} {F F' : Nat → Nat → List Nat} (h : ∀ k c, k < n' → c < m' → ∃ k', k' < n ∧ ∃ c', c' < m ∧ F' k c = F k' c') : ∀ g ∈ Zx n' m' F', g ∈ Zx n m F := fun g hg => by
  obtain ⟨k, hk, c, hc, hg⟩ := mem_flatF.1 hg
  obtain ⟨k', hk', c', hc', e⟩ := h k c hk hc
  exact mem_flatF.2 ⟨k', hk', c', hc', e ▸ hg⟩
theorem flatF_pick {n n' m : Nat} {F : Nat → Nat → List Nat} (φ : Nat → Nat) (hφ : ∀ k, k < n' → φ k < n) (hinj : ∀ k k', k < n' → k' < n' → φ k = φ k' → k = k') (h : (Zx n m F).Nodup) : (Zx n' m fun k c => F (φ k) c).Nodup := by
  rw [nodup_flatF] at h ⊢
  refine ⟨fun k c hk hc => h.1 _ _ (hφ k hk) hc, fun k c k' c' hk hc hk' hc' hne => h.2 _ _ _ _ (hφ k hk) hc (hφ k' hk') hc' ?_⟩
  rcases hne with hne | hne
  · exact .inl fun e => hne (hinj k k' hk hk' e)
  · exact .inr hne
end
end Go.Eng
namespace Go.Eng
variable {P : Program} {tab : Tab}
theorem topOf_slice (a : Option Addr) (n cap : Nat) : Zo (.slice a n cap) = match a, cap with | some a, _ + 1 => [a.block] | _, _ => [] := by
  cases a <;> cases cap <;> rfl
theorem els_move {w w' : World} {ok : Nat → Prop} {t n : List Nat} {v' : Value} {own : Bool} {l : List V} {ty : Ty} {xs : List Value} {F : Nat → Nat → List Nat} (h : Els tab w ok ty own l xs F)
    (hF : ∀ g ∈ Zx l.length ty.kinds.length F, g ∈ n) (hnd : (t ++ n).Nodup) (hok : ∀ g, ok g → g < w.heap.size ∧ g ∉ t) (hlt : ∀ g ∈ t ++ n, g < w.heap.size) (hk : KeptBut t w w') (htop : ∀ g ∈ Zo v', g ∈ t ∨ w.heap.size ≤ g) :
    Els tab w' (fun g => (ok g ∨ g ∈ t ++ n ∨ w.heap.size ≤ g) ∧ g < w'.heap.size ∧ g ∉ ([] ++ Zo v')) ty own l xs F := by
  refine h.keep (fun g hg => ⟨.inl hg, Nat.lt_of_lt_of_le (hok g hg).1 hk.size, fun hm => ?_⟩) (fun g hg => hk.block g (hok g hg).1 (hok g hg).2) fun i j hi hj g hg => ?_
  · rcases htop g (by simpa using hm) with h1 | h1
    · exact (hok g hg).2 h1
    · have := (hok g hg).1; omega
  · have hgn := hF g (mem_flatF.2 ⟨i, hi, j, hj, hg⟩)
    refine hk.block g (hlt g (List.mem_append_right _ hgn)) fun hm => ?_
    exact (List.nodup_append.1 hnd).2.2 g hm g hgn rfl
theorem after_mk {w w' : World} {ok : Nat → Prop} {args : List V} {vals : List Value} {t n : List Nat} {T : TypeId} {own : Bool} {r : List V} {v' : Value} {ty : Ty} {xs : List Value} {F : Nat → Nat → List Nat} {outs : List V} (ht : tab T = some ty)
    (hr : RowIs w' T ty.kinds.length r.length v' xs) (he : Els tab w' (fun g => (ok g ∨ g ∈ t ++ n ∨ w.heap.size ≤ g) ∧ g < w'.heap.size ∧ g ∉ ([] ++ Zo v')) ty own r xs F)
    (hO : ∀ R : V → Value → List Nat → List Nat → Prop, (∀ v, R .dead v [] []) → OutL R (Za3 args vals) outs [] []) (hnd : (t ++ n).Nodup) (hlt : ∀ g ∈ t ++ n, g < w.heap.size)
    (hF : ∀ g ∈ Zx r.length ty.kinds.length F, g ∈ n) (hFn : (Zx r.length ty.kinds.length F).Nodup) (hk : KeptBut t w w') (htop : ∀ g ∈ Zo v', g ∈ t ∨ w.heap.size ≤ g) :
    After tab w ok args vals t n (.rr T own r, outs) v' w' := by
  have hn1 : ∀ g ∈ Zx r.length ty.kinds.length F, g < w.heap.size ∧ g ∉ t := fun g hg => ⟨hlt g (List.mem_append_right _ (hF g hg)), fun hm => (List.nodup_append.1 hnd).2.2 g hm g (hF g hg) rfl⟩
  have hT : (Zo v').Nodup := by
    cases v' with
    | slice a n c => rw [topOf_slice]; split <;> simp
    | _ => simp [Zo]
  refine ⟨Zo v', Zx r.length ty.kinds.length F, [], [], .one (.one (.row (he.row ht hr))), hO _ fun v => .one (.tree (.dead _)), ?_, ?_, ?_, ?_, hk⟩
  · simp only [List.nil_append]
    rw [List.nodup_append]
    refine ⟨hT, hFn, fun a ha b hb e => ?_⟩
    subst e
    rcases htop a ha with h | h
    · exact (hn1 a hb).2 h
    · have := (hn1 a hb).1; omega
  · simpa using htop
  · intro g hg
    exact .inl (List.mem_append_right _ (hF g (by simpa using hg)))
  · intro g hg
    simp only [List.nil_append, List.mem_append] at hg
    rcases hg with hg | hg
    · exact hr.top_lt g hg
    · exact Nat.lt_of_lt_of_le (hn1 g hg).1 hk.size
theorem rq_int {w : World} {ok : Nat → Prop} {k : IntKind} {m : Int} {v : Value} {t n : List Nat} (h : Rq2 tab w ok (.int k m) v t n) : v = .int k m ∧ t = [] ∧ n = [] := by
  cases h with | one h => cases h with | tree h => cases h; exact ⟨rfl, rfl, rfl⟩
theorem rq_rr {w : World} {ok : Nat → Prop} {T : TypeId} {own : Bool} {l : List V} {v : Value} {t n : List Nat} (h : Rq2 tab w ok (.rr T own l) v t n) : RowT tab w ok T own l v n ∧ t = Zo v := by
  cases h with | one h => cases h with
    | tree h => cases h
    | row h => exact ⟨h, rfl⟩
theorem RowIs.slice {w : World} {T : TypeId} {sz N : Nat} {v : Value} {xs : List Value} (h : RowIs w T sz N v xs) : ∃ a cap, v = .slice a N cap ∧ N ≤ cap ∧ cap ≤ maxLen := by
  rcases h.2 with ⟨a, rfl, rfl⟩ | ⟨g, cap, cur, rfl, h1, h2, h3, h4, _⟩
  · exact ⟨a, 0, rfl, Nat.le_refl _, by simp [maxLen]⟩
  · exact ⟨_, cap, rfl, h3, h4⟩
theorem sum_del {f : FuncId} {T : TypeId} {ty : Ty} {own : Bool} {l r : List V} {i j : Int} (ht : tab T = some ty) (hD : DelOk P f T ty.kinds.length) (hS : DelSame P f) (hv : delV l i j = some r) (hne : T ≠ Zbg) :
    SumOk P tab f [.rr T own l, .int .i64 i, .int .i64 j] (.rr T own r, [.dead]) := by
  intro w ok vals t n hrq hnd hok hlt
  cases hrq with | @cons _ v t1 n1 _ vs1 ts1 ns1 hx hxs =>
  cases hxs with | @cons _ v2 t2 n2 _ vs2 ts2 ns2 hx2 hxs =>
  cases hxs with | @cons _ v3 t3 n3 _ vs3 ts3 ns3 hx3 hxs =>
  cases hxs
  obtain ⟨rfl, rfl, rfl⟩ := rq_int hx2
  obtain ⟨rfl, rfl, rfl⟩ := rq_int hx3
  obtain ⟨hrow, rfl⟩ := rq_rr hx
  simp only [List.append_nil] at hnd hok hlt ⊢
  unfold delV at hv
  rw [Bool.cond_eq_ite] at hv
  split at hv
  case isFalse => cases hv
  rename_i hb
  cases hv
  simp only [Bool.and_eq_true, decide_eq_true_eq] at hb
  obtain ⟨hi, hij, hjl, hl63⟩ := hb
  obtain ⟨i, rfl⟩ := Int.eq_ofNat_of_zero_le hi
  obtain ⟨j, rfl⟩ := Int.eq_ofNat_of_zero_le (Int.le_trans hi hij)
  have hij : i ≤ j := by omega
  have hjl : j ≤ l.length := by omega
  simp only [Int.toNat_natCast]
  obtain ⟨xs, F, hr, he, hn⟩ := hrow.els ht
  have hO : ∀ R : V → Value → List Nat → List Nat → Prop, (∀ v, R .dead v [] []) → OutL R (Za3 [V.rr T own l, .int .i64 (i : Int), .int .i64 (j : Int)] [v, .int .i64 (i : Int), .int .i64 (j : Int)]) [.dead] [] [] := fun R h =>
    (OutL.cons (p := (V.rr T own l, v)) (t := []) (n := []) trivial (h _) .nil : OutL R [(V.rr T own l, v)] [.dead] ([] ++ []) ([] ++ []))
  have hFn0 : (Zx l.length ty.kinds.length F).Nodup := by rw [← hn]; exact (List.nodup_append.1 hnd).2.1
  have hel := (he.take (n := i) (by omega)).append (he.drop j)
  have hF' : ∀ k c, (if k < (l.take i).length then F k c else F (j + (k - (l.take i).length)) c) = F (if k < i then k else j + (k - i)) c := fun k c => by
    have : (l.take i).length = i := by simp; omega
    rw [this]; split <;> rfl
  have hlen : (l.take i ++ l.drop j).length = l.length - (j - i) := by simp; omega
  have hφ : ∀ k, k < (l.take i ++ l.drop j).length → (if k < i then k else j + (k - i)) < l.length := fun k hk => by rw [hlen] at hk; split <;> omega
  have hsub : ∀ g ∈ Zx (l.take i ++ l.drop j).length ty.kinds.length (fun k c => if k < (l.take i).length then F k c else F (j + (k - (l.take i).length)) c), g ∈ n1 := by
    rw [hn]
    exact flatF_sub fun k c hk hc => ⟨_, hφ k hk, c, hc, hF' k c⟩
  have hnod : (Zx (l.take i ++ l.drop j).length ty.kinds.length (fun k c => if k < (l.take i).length then F k c else F (j + (k - (l.take i).length)) c)).Nodup := by
    have := flatF_pick (fun k => if k < i then k else j + (k - i)) hφ (fun k k' hk hk' e => by
      split at e <;> split at e <;> omega) hFn0
    simpa only [hF'] using this
  by_cases heq : i = j
  · subst heq
    obtain ⟨a, cap, rfl, h1, h2⟩ := hr.slice
    refine Calls.mono (hS a l.length cap i w hjl h1 h2) ?_
    rintro e w' ⟨rfl, hk⟩
    have hk' : KeptBut (Zo (.slice a l.length cap)) w w' := hk.mono (by simp)
    refine ⟨_, rfl, after_mk ht (xs := xs.take (i * ty.kinds.length) ++ xs.drop (i * ty.kinds.length)) ?_ (els_move hel hsub hnd hok hlt hk' fun g hg => .inl hg) hO hnd hlt hsub hnod hk' fun g hg => .inl hg⟩
    rw [List.take_append_drop, List.take_append_drop]
    refine hr.keep fun g hg => hk.block g (hlt g (List.mem_append_left _ hg)) (by simp)
  · rcases hr.2 with ⟨a, rfl, h0⟩ | ⟨g, cap, cur, rfl, hc, hg, hN, hm, hs, hx⟩
    · omega
    have hg := hg.zero hne
    refine Calls.mono (hD g l.length cap i j cur w hg hs hN hm (by rw [hx]; exact he.one) (by omega) hjl) ?_
    rintro e w' ⟨rfl, cur', k1, k2, k3, k4⟩
    have htop : Zo (Value.slice (some ⟨g, 0, none⟩) (l.length - (j - i)) cap) = Zo (Value.slice (some ⟨g, 0, none⟩) l.length cap) := by rw [Zcg _ _ _ hc, Zcg _ _ _ hc]
    have hk' : KeptBut (Zo (Value.slice (some ⟨g, 0, none⟩) l.length cap)) w w' := by rw [Zcg _ _ _ hc]; exact k4
    refine ⟨_, rfl, after_mk ht (xs := xs.take (i * ty.kinds.length) ++ xs.drop (j * ty.kinds.length)) ?_ (els_move hel hsub hnd hok hlt hk' fun g hg => .inl (htop ▸ hg)) hO hnd hlt hsub hnod hk' fun g hg => .inl (htop ▸ hg)⟩
    rw [hlen]
    exact rowIs_some hc k1 (by omega) hm k2 (by rw [k3, hx])
theorem sum_ins {f : FuncId} {T : TypeId} {ty : Ty} {own : Bool} {l x r : List V} {i : Int} (ht : tab T = some ty) (hI : InsOk P f T ty.kinds.length ty.bytes) (hv : insV ty.bytes l i x = some r) :
    SumOk P tab f [.rr T own l, .int .i64 i, .rr T own x] (.rr T own r, [.dead, .dead]) := by
  intro w ok vals t n hrq hnd hok hlt
  cases hrq with | @cons _ v t1 n1 _ vs1 ts1 ns1 hx hxs =>
  cases hxs with | @cons _ v2 t2 n2 _ vs2 ts2 ns2 hx2 hxs =>
  cases hxs with | @cons _ v3 t3 n3 _ vs3 ts3 ns3 hx3 hxs =>
  cases hxs
  obtain ⟨rfl, rfl, rfl⟩ := rq_int hx2
  obtain ⟨hrow, rfl⟩ := rq_rr hx
  obtain ⟨hrow3, rfl⟩ := rq_rr hx3
  simp only [List.append_nil, List.nil_append] at hnd hok hlt ⊢
  unfold insV at hv
  rw [Bool.cond_eq_ite] at hv
  split at hv
  case isFalse => cases hv
  rename_i hb
  cases hv
  simp only [Bool.and_eq_true, decide_eq_true_eq, Zu] at hb
  obtain ⟨hi, hil, hx1, hr63, hrb⟩ := hb
  obtain ⟨i, rfl⟩ := Int.eq_ofNat_of_zero_le hi
  have hil : i ≤ l.length := by omega
  simp only [Int.toNat_natCast]
  obtain ⟨xs, F, hr, he, hn⟩ := hrow.els ht
  obtain ⟨ys, G, hr3, he3, hn3⟩ := hrow3.els ht
  subst hn; subst hn3
  have hO : ∀ R : V → Value → List Nat → List Nat → Prop, (∀ v, R .dead v [] []) → OutL R (Za3 [V.rr T own l, .int .i64 (i : Int), .rr T own x] [v, .int .i64 (i : Int), v3]) [.dead, .dead] [] [] := fun R h =>
    (OutL.cons (p := (V.rr T own l, v)) (t := []) (n := []) trivial (h _) (OutL.cons (p := (V.rr T own x, v3)) (t := []) (n := []) trivial (h _) .nil) : OutL R [(V.rr T own l, v), (V.rr T own x, v3)] [.dead, .dead] ([] ++ ([] ++ [])) ([] ++ ([] ++ [])))
  have hel := ((he.take (n := i) hil).append he3).append (he.drop i)
  have hli : (l.take i).length = i := by simp; omega
  have hlix : (l.take i ++ x).length = i + 1 := by simp [hx1]; omega
  have hlen : (l.take i ++ x ++ l.drop i).length = l.length + 1 := by simp [hx1]; omega
  obtain ⟨F', hF'⟩ : ∃ F' : Nat → Nat → List Nat, F' = fun k c => if k < (l.take i ++ x).length then (if k < (l.take i).length then F k c else G (k - (l.take i).length) c) else F (i + (k - (l.take i ++ x).length)) c := ⟨_, rfl⟩
  rw [← hF'] at hel
  have c1 : ∀ k c, k < i → F' k c = F k c := fun k c hk => by rw [hF']; simp only [hlix, hli]; rw [if_pos (by omega), if_pos hk]
  have c2 : ∀ c, F' i c = G 0 c := fun c => by rw [hF']; simp only [hlix, hli]; rw [if_pos (by omega), if_neg (by omega), Nat.sub_self]
  have c3 : ∀ k c, i < k → F' k c = F (k - 1) c := fun k c hk => by rw [hF']; simp only [hlix, hli]; rw [if_neg (by omega)]; congr 1; omega
  obtain ⟨⟨hT1, hT2, hT3⟩, ⟨hN1, hN2, hN3⟩, hTN⟩ := (List.nodup_append.1 hnd).imp List.nodup_append.1 fun h => h.imp List.nodup_append.1 id
  have hFn := nodup_flatF.1 hN1
  have hGn := nodup_flatF.1 hN2
  have hFG : ∀ k c c' g, k < l.length → c < ty.kinds.length → c' < ty.kinds.length → g ∈ F k c → g ∈ G 0 c' → False := fun k c c' g hk hc hc' h1 h2 => hN3 g (mem_flatF.2 ⟨k, hk, c, hc, h1⟩) g (mem_flatF.2 ⟨0, by omega, c', hc', h2⟩) rfl
  have hsub : ∀ g ∈ Zx (l.take i ++ x ++ l.drop i).length ty.kinds.length F', g ∈ Zx l.length ty.kinds.length F ++ Zx x.length ty.kinds.length G := fun g hg0 => by
    obtain ⟨k, hk, c, hc, hg⟩ := mem_flatF.1 hg0
    clear hg0
    rw [hlen] at hk
    rcases Nat.lt_trichotomy k i with h | h | h
    · rw [c1 k c h] at hg; exact List.mem_append_left _ (mem_flatF.2 ⟨k, by omega, c, hc, hg⟩)
    · subst h; rw [c2 c] at hg; exact List.mem_append_right _ (mem_flatF.2 ⟨0, by omega, c, hc, hg⟩)
    · rw [c3 k c h] at hg; exact List.mem_append_left _ (mem_flatF.2 ⟨k - 1, by omega, c, hc, hg⟩)
  have hnod : (Zx (l.take i ++ x ++ l.drop i).length ty.kinds.length F').Nodup := by
    rw [nodup_flatF, hlen]
    refine ⟨fun k c hk hc => ?_, fun k c k' c' hk hc hk' hc' hne g hg hg' => ?_⟩
    · rcases Nat.lt_trichotomy k i with h | h | h
      · rw [c1 k c h]; exact hFn.1 k c (by omega) hc
      · subst h; rw [c2 c]; exact hGn.1 0 c (by omega) hc
      · rw [c3 k c h]; exact hFn.1 _ c (by omega) hc
    · rcases Nat.lt_trichotomy k i with h | h | h <;> rcases Nat.lt_trichotomy k' i with h' | h' | h'
      · rw [c1 k c h] at hg; rw [c1 k' c' h'] at hg'; exact hFn.2 k c k' c' (by omega) hc (by omega) hc' hne g hg hg'
      · subst h'; rw [c1 k c h] at hg; rw [c2 c'] at hg'; exact hFG k c c' g (by omega) hc hc' hg hg'
      · rw [c1 k c h] at hg; rw [c3 k' c' h'] at hg'; exact hFn.2 k c (k' - 1) c' (by omega) hc (by omega) hc' (.inl (by omega)) g hg hg'
      · subst h; rw [c2 c] at hg; rw [c1 k' c' h'] at hg'; exact hFG k' c' c g (by omega) hc' hc hg' hg
      · subst h; subst h'; rw [c2 c] at hg; rw [c2 c'] at hg'; exact hGn.2 0 c 0 c' (by omega) hc (by omega) hc' (.inr (by rcases hne with e | e; exact absurd rfl e; exact e)) g hg hg'
      · subst h; rw [c2 c] at hg; rw [c3 k' c' h'] at hg'; exact hFG (k' - 1) c' c g (by omega) hc' hc hg' hg
      · rw [c3 k c h] at hg; rw [c1 k' c' h'] at hg'; exact hFn.2 (k - 1) c k' c' (by omega) hc (by omega) hc' (.inl (by omega)) g hg hg'
      · subst h'; rw [c3 k c h] at hg; rw [c2 c'] at hg'; exact hFG (k - 1) c c' g (by omega) hc hc' hg hg'
      · rw [c3 k c h] at hg; rw [c3 k' c' h'] at hg'
        exact hFn.2 (k - 1) c (k' - 1) c' (by omega) hc (by omega) hc' (by rcases hne with e | e; exact .inl (by omega); exact .inr e) g hg hg'
  rw [hx1] at hr3
  refine Calls.mono (hI w v v3 l.length i xs ys hr hr3 (fun g hg hg' => hT3 g hg g hg' rfl) he.one he3.one hil hrb hr63) ?_
  rintro e w' ⟨v', rfl, k1, k2, k3⟩
  have hk' : KeptBut (Zo v ++ Zo v3) w w' := k2.mono fun g hg => List.mem_append_left _ hg
  have htop : ∀ g ∈ Zo v', g ∈ Zo v ++ Zo v3 ∨ w.heap.size ≤ g := fun g hg => (k3 g hg).imp (List.mem_append_left _) id
  exact ⟨v', rfl, after_mk ht (by rw [hlen]; exact k1) (els_move hel hsub hnd hok hlt hk' htop) hO hnd hlt hsub hnod hk' htop⟩
def enDel (hB : Base P tab) {f : FuncId} {fn : Func} (hf : P.funcs[f]? = some fn) (hb : (!(fn.name == "runtime.NumGoroutine") && fn.body.isSome) = true) (T : TypeId) {ty : Ty} (ht : tab T = some ty) (own : Bool) (hD : DelOk P f T ty.kinds.length) (hS : DelSame P f) (par : List (Option TypeId)) (hne : Nat.beq T Zbg = false := by rfl) : En P tab :=
  { f := f
    s := fun a => bif Za5 [.one (.rr T own), .one (.int .i64), .one (.int .i64)] a then some ((delV (rd a 0).L (rd a 1).I (rd a 2).I).isSome, (V.rr T own ((delV (rd a 0).L (rd a 1).I (rd a 2).I).getD default), [V.dead])) else none
    ok := by
      intro args r h
      cases hs : Za5 [.one (.rr T own), .one (.int .i64), .one (.int .i64)] args with
      | false => rw [hs] at h; cases h
      | true =>
        rw [hs] at h
        simp only [cond_true, Option.some.injEq, Prod.mk.injEq] at h
        obtain ⟨h1, h2⟩ := h
        obtain ⟨x, hx⟩ := Option.isSome_iff_exists.1 h1
        rw [hx] at h2
        have ha := ZcD (pre := []) hs
        simp only [List.nil_append, List.length_nil, argsMk, S2.mk, S1.mk] at ha
        rw [← ha, ← h2]
        exact sum_del ht hD hS hx fun e => by rw [e, Nat.beq_refl] at hne; cases hne
    en := ZbQ hf hb, par := par, wr := true }
def enIns (hB : Base P tab) {f : FuncId} {fn : Func} (hf : P.funcs[f]? = some fn) (hb : (!(fn.name == "runtime.NumGoroutine") && fn.body.isSome) = true) (T : TypeId) {ty : Ty} (ht : tab T = some ty) (own : Bool) (bytes : Nat) (hbytes : ty.bytes = bytes) (hI : InsOk P f T ty.kinds.length ty.bytes) (par : List (Option TypeId)) : En P tab :=
  { f := f
    s := fun a => bif Za5 [.one (.rr T own), .one (.int .i64), .one (.rr T own)] a then some ((insV bytes (rd a 0).L (rd a 1).I (rd a 2).L).isSome, (V.rr T own ((insV bytes (rd a 0).L (rd a 1).I (rd a 2).L).getD default), [V.dead, V.dead])) else none
    ok := by
      intro args r h
      cases hs : Za5 [.one (.rr T own), .one (.int .i64), .one (.rr T own)] args with
      | false => rw [hs] at h; cases h
      | true =>
        rw [hs] at h
        simp only [cond_true, Option.some.injEq, Prod.mk.injEq] at h
        obtain ⟨h1, h2⟩ := h
        obtain ⟨x, hx⟩ := Option.isSome_iff_exists.1 h1
        rw [hx] at h2
        have ha := ZcD (pre := []) hs
        simp only [List.nil_append, List.length_nil, argsMk, S2.mk, S1.mk] at ha
        rw [← ha, ← h2]
        subst hbytes
        exact sum_ins ht hI hx
    en := ZbQ hf hb, par := par, wr := true }
end Go.Eng
namespace Go.Eng
variable {P : Program} {tab : Tab}
def cmpV (a b : List V) : Int := bif Zcb (a.map ZaB) (b.map ZaB) then -1 else bif Zba (a.map ZaB) (b.map ZaB) then 0 else 1
theorem compareBytes_lt : ∀ a b : List UInt8, Lib.compareBytes a b = if Op.bytesLess a b = true then -1 else if (a == b) = true then 0 else 1
  | [], [] => rfl
  | [], _ :: _ => rfl
  | _ :: _, [] => rfl
  | x :: a, y :: b => by
    have ih := compareBytes_lt a b
    unfold Lib.compareBytes
    simp only [Op.bytesLess, List.cons_beq_cons, Bool.or_eq_true, Bool.and_eq_true, decide_eq_true_eq]
    by_cases h1 : x < y
    · simp [h1]
    · by_cases h2 : y < x
      · have h3 : x ≠ y := fun e => h1 (e ▸ h2)
        simp [h1, h2, h3]
      · have h3 : x = y := UInt8.le_antisymm (UInt8.not_lt.1 h2) (UInt8.not_lt.1 h1)
        subst h3
        simp [ih]
theorem bytesOf_inl {w : World} {ok : Nat → Prop} {e : TypeId} {et : Ty} (he : tab e = some et) (ha : et.agg = false) (hk : et.kinds = [.int .u8]) {l : List V} {v : Value} (h : Rp tab w ok (.inl e l) v) :
    ∃ s, (Extern.Bytes.bytesOf v).run P w = .ok s w ∧ Z0 s = l.map ZaB := by
  cases h with | inl _ _ ty a cap g off cv h1 h2 h3 h4 h5 h6 =>
  obtain rfl : et = ty := Option.some.inj (he.symm.trans h1)
  by_cases hl : l = []
  · subst hl
    cases a with
    | none => exact ⟨.empty, by simp [Extern.Bytes.bytesOf], rfl⟩
    | some a => exact ⟨.empty, by simp [Extern.Bytes.bytesOf, Extern.Bytes.loadBytes], rfl⟩
  · obtain ⟨rfl, -⟩ := h3 hl
    have hel : ∀ i, i < l.length → cv i 0 = .int .u8 ((l.getD i .dead).I) := fun i hi => by
      have hs := h4 i hi
      have hc0 : (l.getD i .dead).cell 0 = l.getD i .dead := by
        have hna := hs.2.2.1 ha
        cases hx : l.getD i .dead <;> first | rfl | exact absurd hx (hna _)
      have hkk := hs.2.2.2 0 (by rw [hk]; exact Nat.one_pos)
      have hr := h6 i 0 hi (by rw [hk]; exact Nat.one_pos)
      rw [hk] at hkk
      rw [hc0] at hkk hr
      cases hx : l.getD i .dead <;> rw [hx] at hkk hr <;> simp [kindOk] at hkk
      subst hkk
      rw [hr.int_eq]; rfl
    have hcell : ∀ j x, (l.map V.I)[j]? = some x → w.cell? ((⟨g, off, none⟩ : Addr).add j) = some (.int .u8 x) := fun j x hj => by
      have hlt : j < l.length := by have := (List.getElem?_eq_some_iff.1 hj).1; simpa using this
      have := h5 j 0 hlt (by rw [hk]; exact Nat.one_pos)
      rw [hk] at this
      rw [Addr.add_none]
      simp only [List.length_cons, List.length_nil, Nat.zero_add, Nat.mul_one, Nat.add_zero] at this
      rw [this, hel j hlt]
      have e2 := (List.getElem?_eq_some_iff.1 hj).2
      simp at e2
      rw [← e2]; simp [List.getD, hlt]
    have hrun := Lib.run_loadBytesX (P := P) w (l.map V.I) ⟨g, off, none⟩ .empty hcell
    rw [List.length_map] at hrun
    refine ⟨_, by simp only [Extern.Bytes.bytesOf]; exact hrun, ?_⟩
    simp only [Z0, Lib.bytesOf]
    simp
    intro x _
    simp [ZaB]
theorem cmp_spec {a b : ByteArray} {x y : List V} (ha : Z0 a = x) (hb : Z0 b = y) : Extern.BytealgCompare.cmp a b = bif Zcb x y then -1 else bif Zba x y then 0 else 1 := by
  rw [Lib.cmp_eq, compareBytes_lt, ← ha, ← hb, strOf_lt, strOf_inj]
  simp only [Bool.cond_eq_ite]
def CmpOk (P : Program) (f : FuncId) : Prop := ∀ (v1 v2 : Value) (c : Int) (w : World), (Extern.BytealgCompare.compare #[v1, v2]).run P w = .ok (.int .i64 c) w → Calls P f #[v1, v2] w fun e w' => e = .returned (.int .i64 c) ∧ KeptBut [] w w'
theorem rq_inl {w : World} {ok : Nat → Prop} {T : TypeId} {l : List V} {v : Value} {t n : List Nat} (h : Rq2 tab w ok (.inl T l) v t n) : Rp tab w ok (.inl T l) v ∧ t = [] ∧ n = [] := by
  cases h with | one h => cases h with | tree h => exact ⟨h, rfl, rfl⟩
theorem sum_cmp {f : FuncId} {e : TypeId} {et : Ty} (he : tab e = some et) (ha : et.agg = false) (hk : et.kinds = [.int .u8]) (hC : CmpOk P f) (a b : List V) : SumOk P tab f [.inl e a, .inl e b] (.int .i64 (cmpV a b), []) := by
  intro w ok vals t n hrq hnd hok hlt
  cases hrq with | @cons _ v t1 n1 _ vs1 ts1 ns1 hx hxs =>
  cases hxs with | @cons _ v2 t2 n2 _ vs2 ts2 ns2 hx2 hxs =>
  cases hxs
  obtain ⟨r1, rfl, rfl⟩ := rq_inl hx
  obtain ⟨r2, rfl, rfl⟩ := rq_inl hx2
  obtain ⟨s1, e1, e2⟩ := bytesOf_inl (P := P) he ha hk r1
  obtain ⟨s2, e3, e4⟩ := bytesOf_inl (P := P) he ha hk r2
  have hrun : (Extern.BytealgCompare.compare #[v, v2]).run P w = .ok (.int .i64 (cmpV a b)) w := by
    change Sem.run P (do pure (goInt (Extern.BytealgCompare.cmp (← Extern.Bytes.bytesOf v) (← Extern.Bytes.bytesOf v2)))) w = _
    simp only [Sem.run_bind, e1, e3, Result.andThen_ok, Sem.run_pure]
    rw [cmp_spec e2 e4]
    rfl
  refine (hC v v2 _ w hrun).mono ?_
  rintro e' w' ⟨rfl, hkp⟩
  exact ⟨_, rfl, [], [], [], [], .one (.one (.tree (.int _ _))), .nil, by simp, by simp, by simp, by simp, hkp.mono (by simp)⟩
def enCmp (hB : Base P tab) {f : FuncId} {fn : Func} (hf : P.funcs[f]? = some fn) (hb : (!(fn.name == "runtime.NumGoroutine") && fn.body.isSome) = true) (e : TypeId) {et : Ty} (he : tab e = some et) (ha : et.agg = false) (hk : et.kinds = [.int .u8]) (hC : CmpOk P f) (par : List (Option TypeId)) : En P tab :=
  { f := f
    s := fun a => bif Za5 [.one (.inl e), .one (.inl e)] a then some (true, (V.int .i64 (cmpV (rd a 0).L (rd a 1).L), [])) else none
    ok := by
      intro args r h
      cases hs : Za5 [.one (.inl e), .one (.inl e)] args with
      | false => rw [hs] at h; cases h
      | true =>
        rw [hs] at h
        simp only [cond_true, Option.some.injEq, Prod.mk.injEq, true_and] at h
        have h2 := h
        have ha' := ZcD (pre := []) hs
        simp only [List.nil_append, List.length_nil, argsMk, S2.mk, S1.mk] at ha'
        rw [← ha', ← h2]
        exact sum_cmp he ha hk hC _ _
    en := ZbQ hf hb, par := par, wr := false }
end Go.Eng
namespace Go.Eng
variable {P : Program} {tab : Tab}
structure Reads (P : Program) (w : World) (sz m : Nat) (v : Value) (ys : List Value) : Prop where
  len : ys.length = m * sz
  one : OneL ys
  lenOf : ∀ W, (Builtin.lenOf v).run P W = .ok m W
  cells : ∀ W : World, (∀ g, g < w.heap.size → W.heap[g]? = w.heap[g]?) → (Builtin.firstCells sz m v).run P W = .ok ys.toArray W
end Go.Eng
namespace Go.Eng
end Go.Eng
namespace Go.Eng
variable {P : Program} {tab : Tab}
end Go.Eng
namespace Go.Eng
noncomputable section
variable {P : Program} {tab : Tab}
def sumsK (c d e T : Nat) : Sums := fun f args => bif Nat.beq f c then (match args with
    | [.inl e1 a, .inl e2 b] => bif Nat.beq e1 e && Nat.beq e2 e then some (true, (.int .i64 (cmpV a b), [])) else none
    | _ => none)
  else bif Nat.beq f d then (match args with
    | [.rr T1 own l, .int .i64 i, .int .i64 j] => bif Nat.beq T1 T then (match delV l i j with | some r => some (true, (.rr T own r, [.dead])) | none => none) else none
    | _ => none)
  else none
theorem sumsK_ok {c d e T : Nat} {et ty : Ty} (he : tab e = some et) (ha : et.agg = false) (hk : et.kinds = [.int .u8]) (hC : CmpOk P c) (hcE : Enters P c) (ht : tab T = some ty) (hD : DelOk P d T ty.kinds.length) (hS : DelSame P d) (hdE : Enters P d) (hne : Nat.beq T Zbg = false := by rfl) : ZaV P tab (sumsK c d e T) := by
  intro f args r h
  unfold sumsK at h
  cases hc : Nat.beq f c with
  | true =>
    obtain rfl := Nat.eq_of_beq_eq_true hc
    rw [hc, cond_true] at h
    split at h
    · rename_i e1 a e2 b
      cases hq : (Nat.beq e1 e && Nat.beq e2 e) with
      | false => rw [hq] at h; cases h
      | true =>
        rw [hq] at h
        cases h
        rw [Bool.and_eq_true] at hq
        obtain rfl := Nat.eq_of_beq_eq_true hq.1
        obtain rfl := Nat.eq_of_beq_eq_true hq.2
        exact ⟨hcE, sum_cmp he ha hk hC a b⟩
    · cases h
  | false =>
    rw [hc, cond_false] at h
    cases hd : Nat.beq f d with
    | false => rw [hd] at h; cases h
    | true =>
      obtain rfl := Nat.eq_of_beq_eq_true hd
      rw [hd, cond_true] at h
      split at h
      · rename_i T1 own l i j
        cases hq : Nat.beq T1 T with
        | false => rw [hq] at h; cases h
        | true =>
          rw [hq, cond_true] at h
          obtain rfl := Nat.eq_of_beq_eq_true hq
          split at h
          · rename_i x hx
            cases h
            exact ⟨hdE, sum_del ht hD hS hx fun e => by rw [e, Nat.beq_refl] at hne; cases hne⟩
          · cases h
      · cases h
def cfgK (tab : Tab) (c d e T : Nat) : Cfg := { tab := tab, sums := sumsK c d e T, mutf := fun f => Nat.beq f d }
def enB {f : FuncId} {fn : Func} (hf : P.funcs[f]? = some fn) (hb : (!(fn.name == "runtime.NumGoroutine") && fn.body.isSome) = true) {b : Bool} (h : SumOk P tab f [] (.bool b, [])) : En P tab :=
  { f := f
    s := fun a => bif a.isEmpty then some (true, (V.bool b, [])) else none
    ok := by
      intro args r hr
      cases args with
      | nil => cases hr; exact h
      | cons _ _ => cases hr
    en := ZbQ hf hb, par := [], wr := false }
theorem run_sum {cfg : Cfg} (hT : Zv P cfg.tab) (hS : ZaV P cfg.tab cfg.sums) (hmix : P.follows .mixedOrders = true) {il fl cl : List Nat} {cnf : Nat → Clear} (hil : fnsB P il = true) (hfl : fnsB P fl = true) {m k : Nat} {cn : Clear} {f : FuncId} {fn : Func} (hf : P.funcs[f]? = some fn) (hok : fnOk fn = true) {args : List V} (hlen : Nat.ble args.length fn.ntmps = true) {n : Nat} {r : V × List V}
    (h : Zcv { cfg with sums := runSums P cfg (fnsOf P il) fl cl cnf m k } (fnsOf P il) cn n fn args = some r) : SumOk P cfg.tab f args r := by
  simp only [fnOk, Bool.and_eq_true] at hok
  have hb : fn.body = some (Z6 fn) := by
    unfold Z6
    cases hq : fn.body with
    | none => rw [hq] at hok; simp at hok
    | some c => rfl
  exact fnG_sound (cfg := { cfg with sums := runSums P cfg (fnsOf P il) fl cl cnf m k }) hT (runSums_ok hT hS hmix (fnsB_spec hil) hfl cl cnf m k) hmix (fnsB_spec hil) hf hb hok.2 (Nat.le_of_ble_eq_true hlen) h
end
end Go.Eng
namespace Go.Eng
def nlt (a b : List V) : Bool := Zcb (a.map ZaB) (b.map ZaB)
def neq (a b : List V) : Bool := Zba (a.map ZaB) (b.map ZaB)
def ZE (a : List V) : List Int := a.map fun x => ((x.I.toNat % 256 : Nat) : Int)
theorem ZbZ : ∀ a b : List V, neq a b = decide (ZE a = ZE b)
  | [], [] => rfl
  | [], _ :: _ => rfl
  | _ :: _, [] => rfl
  | x :: a, y :: b => by
    have ih := ZbZ a b
    simp only [neq, ZE, List.map_cons, Zba, ZaB, V.I, List.cons.injEq] at ih ⊢
    rw [ih]
    by_cases h : ((x.I.toNat % 256 : Nat) : Int) = ((y.I.toNat % 256 : Nat) : Int) <;> simp
def ltC : List Int → List Int → Bool
  | _, [] => false
  | [], _ :: _ => true
  | a :: x, b :: y => decide (a < b) || (decide (a = b) && ltC x y)
theorem Zcw : ∀ a b : List V, nlt a b = ltC (ZE a) (ZE b)
  | [], [] => rfl
  | [], _ :: _ => rfl
  | _ :: _, [] => rfl
  | x :: a, y :: b => by
    have ih := Zcw a b
    show (decide ((ZaB x).I < (ZaB y).I) || (decide ((ZaB x).I = (ZaB y).I) && nlt a b)) = ltC (ZE (x :: a)) (ZE (y :: b))
    rw [ih]
    rfl
theorem ltC_irr : ∀ a, ltC a a = false
  | [] => rfl
  | x :: a => by simp [ltC, ltC_irr a]
theorem ltC_trans : ∀ a b c, ltC a b = true → ltC b c = true → ltC a c = true
  | _, [], _, h, _ => by cases ‹List Int› <;> simp [ltC] at h
  | _, _ :: _, [], _, h => by simp [ltC] at h
  | [], _ :: _, _ :: _, _, _ => rfl
  | x :: a, y :: b, z :: c, h1, h2 => by
    simp only [ltC, Bool.or_eq_true, Bool.and_eq_true, decide_eq_true_eq] at h1 h2 ⊢
    rcases h1 with h1 | ⟨rfl, h1⟩ <;> rcases h2 with h2 | ⟨rfl, h2⟩
    · exact .inl (by omega)
    · exact .inl h1
    · exact .inl h2
    · exact .inr ⟨rfl, ltC_trans a b c h1 h2⟩
theorem ltC_tri : ∀ a b, ltC a b = false → ltC b a = false → a = b
  | [], [], _, _ => rfl
  | [], _ :: _, h, _ => by simp [ltC] at h
  | _ :: _, [], _, h => by simp [ltC] at h
  | x :: a, y :: b, h1, h2 => by
    simp only [ltC, Bool.or_eq_false_iff, decide_eq_false_iff_not, Bool.and_eq_false_iff] at h1 h2
    obtain rfl : x = y := by omega
    rcases h1.2 with h | h
    · exact absurd rfl h
    · rcases h2.2 with h' | h'
      · exact absurd rfl h'
      · rw [ltC_tri a b h h']
theorem nlt_trans {a b c : List V} (h1 : nlt a b = true) (h2 : nlt b c = true) : nlt a c = true := by rw [Zcw] at *; exact ltC_trans _ _ _ h1 h2
theorem nlt_neq {a b : List V} (h : nlt a b = true) : neq a b = false := by
  rw [Zcw] at h
  rw [ZbZ, decide_eq_false_iff_not]
  intro e
  rw [e, ltC_irr] at h; cases h
theorem nlt_congr_r {a b c : List V} (h : neq b c = true) : nlt a b = nlt a c := by
  rw [ZbZ, decide_eq_true_eq] at h
  rw [Zcw, Zcw, h]
theorem nlt_tri {a b : List V} (h1 : nlt a b = false) (h2 : neq a b = false) : nlt b a = true := by
  cases h : nlt b a with
  | true => rfl
  | false =>
    rw [Zcw] at h h1
    rw [ZbZ, decide_eq_false_iff_not] at h2
    exact absurd (ltC_tri _ _ h1 h) h2
theorem cmpV_neg (a b : List V) : decide (cmpV a b < 0) = nlt a b := by
  show decide ((bif nlt a b then (-1 : Int) else bif neq a b then 0 else 1) < 0) = _
  cases nlt a b <;> cases neq a b <;> rfl
theorem cmpV_nonneg (a b : List V) : decide ((0 : Int) ≤ cmpV a b) = !nlt a b := by
  show decide ((0 : Int) ≤ (bif nlt a b then (-1 : Int) else bif neq a b then 0 else 1)) = _
  cases nlt a b <;> cases neq a b <;> rfl
theorem cmpV_zero (a b : List V) : decide (cmpV a b = 0) = (!nlt a b && neq a b) := by
  show decide ((bif nlt a b then (-1 : Int) else bif neq a b then 0 else 1) = 0) = _
  cases nlt a b <;> cases neq a b <;> rfl
theorem cmpV_zero' (a b : List V) : decide (cmpV a b = 0) = neq a b := by
  rw [cmpV_zero]
  cases h : neq a b with
  | false => simp
  | true =>
    cases h' : nlt a b with
    | false => rfl
    | true => rw [nlt_neq h'] at h; cases h
theorem wr_mid {i j : Nat} (h : i + j < 9223372036854775808) : IntKind.i64.wrap (sShr .u64 (IntKind.u64.wrap (IntKind.i64.wrap ((i : Int) + (j : Int)))) 1) = (((i + j) / 2 : Nat) : Int) := by
  rw [Zaw (n := (i : Int) + (j : Int)) (by omega) (by omega)]
  have hu : IntKind.u64.wrap ((i : Int) + (j : Int)) = (i : Int) + (j : Int) := by
    have := IntWalk.u64_in ((i : Int) + (j : Int)) (by omega)
    exact this
  rw [hu]
  have : sShr .u64 ((i : Int) + (j : Int)) 1 = (((i + j) / 2 : Nat) : Int) := by
    unfold sShr
    rw [show ((2 : Int) ^ (min (1 : Int).toNat IntKind.u64.bits)) = 2 from by decide, Int.fdiv_eq_ediv_of_nonneg _ (by omega)]
    omega
  rw [this, Zaw (by omega) (by omega)]
theorem bs_loop {ρ : Type} {F : Nat → Int → Int → ρ} {x : List V} {p : V → Bool} {n0 : Nat} {out : Int → ρ} (hx : x.length < 4611686018427387904) (hp : ∀ i, i < x.length → p (rd x i) = decide (i < n0))
    (h1 : ∀ m (i j : Nat), i < j → j ≤ x.length → F (m + 1) (i : Int) (j : Int) = bif p (rd x ((i + j) / 2)) then F m (((i + j) / 2 + 1 : Nat) : Int) (j : Int) else F m (i : Int) (((i + j) / 2 : Nat) : Int)) (h0 : ∀ m (i : Nat), F (m + 1) (i : Int) (i : Int) = out (i : Int)) :
    ∀ m (i j : Nat), i ≤ n0 → n0 ≤ j → j ≤ x.length → j - i < m → F m (i : Int) (j : Int) = out (n0 : Int)
  | 0, i, j, _, _, _, h => by omega
  | m + 1, i, j, hi, hj, hl, hm => by
    rcases Nat.lt_or_ge i j with h | h
    · rw [h1 m i j h hl, hp _ (by omega)]
      by_cases hc : (i + j) / 2 < n0
      · rw [decide_eq_true hc, cond_true]
        exact bs_loop hx hp h1 h0 m _ j (by omega) hj hl (by omega)
      · rw [decide_eq_false hc, cond_false]
        exact bs_loop hx hp h1 h0 m i _ hi (by omega) (by omega) (by omega)
    · obtain rfl : i = j := by omega
      obtain rfl : n0 = i := by omega
      exact h0 m n0
theorem all_loopI {ρ : Type} {F : Nat → Int → ρ} {n : Nat} {q : Nat → Bool} {yes no : ρ}
    (h1 : ∀ m (i : Nat), i < n → F (m + 1) (i : Int) = bif q i then F m ((i + 1 : Nat) : Int) else no) (h0 : ∀ m, F (m + 1) (n : Int) = yes) :
    F (n + 1) 0 = bif (List.range n).all q then yes else no := by
  refine Zdx (F := fun m (_ : Unit) i => F m i) (n := n) (fun i _ => (List.range i).all q = true) (fun o => o = bif (List.range n).all q then yes else no) ?_ ?_ (s := ()) (by simp)
  · intro m i s hi hI
    rw [h1 m i hi]
    cases hp : q i with
    | true =>
      refine .inl ⟨(), rfl, ?_⟩
      rw [List.range_succ, List.all_append, hI]; simp [hp]
    | false =>
      refine .inr ?_
      have : (List.range n).all q = false := by
        rw [List.all_eq_false]
        exact ⟨i, List.mem_range.2 hi, by simp [hp]⟩
      rw [this]; rfl
  · intro m s hI
    show F (m + 1) (n : Int) = _
    rw [hI]; exact h0 m
def Zq (q : Nat → Bool) : Nat → Nat → Option Nat
  | _, 0 => none
  | i, k + 1 => bif q i then some i else Zq q (i + 1) k
theorem ZcE {ρ : Type} {F : Nat → Int → ρ} {n : Nat} {q : Nat → Bool} {no : ρ} {out : Int → ρ}
    (h1 : ∀ m (i : Nat), i < n → F (m + 1) (i : Int) = bif q i then out (i : Int) else F m ((i + 1 : Nat) : Int)) (h0 : ∀ m, F (m + 1) (n : Int) = no) :
    ∀ m (i : Nat), i ≤ n → n - i < m → F m (i : Int) = match Zq q i (n - i) with | some j => out (j : Int) | none => no
  | 0, i, _, h => by omega
  | m + 1, i, hi, hm => by
    rcases Nat.lt_or_ge i n with h | h
    · rw [h1 m i h, show n - i = (n - (i + 1)) + 1 from by omega, Zq]
      cases q i with
      | true => rfl
      | false => exact ZcE h1 h0 m (i + 1) (by omega) (by omega)
    · obtain rfl : i = n := by omega
      rw [Nat.sub_self, Zq]; exact h0 m
theorem firstI_none {q : Nat → Bool} : ∀ {k i : Nat}, Zq q i k = none ↔ ∀ j, i ≤ j → j < i + k → q j = false
  | 0, i => by simp [Zq]; omega
  | k + 1, i => by
    rw [Zq]
    cases hq : q i with
    | true => simp; exact ⟨i, Nat.le_refl _, by omega, hq⟩
    | false =>
      rw [cond_false, firstI_none]
      constructor
      · intro h j h1 h2
        rcases Nat.eq_or_lt_of_le h1 with rfl | h3
        · exact hq
        · exact h j h3 (by omega)
      · exact fun h j h1 h2 => h j (by omega) (by omega)
theorem ZR {q : Nat → Bool} : ∀ {k i j : Nat}, Zq q i k = some j → i ≤ j ∧ j < i + k ∧ q j = true ∧ ∀ t, i ≤ t → t < j → q t = false
  | 0, i, j, h => by simp [Zq] at h
  | k + 1, i, j, h => by
    rw [Zq] at h
    cases hq : q i with
    | true =>
      rw [hq, cond_true] at h
      cases h
      exact ⟨Nat.le_refl _, by omega, hq, fun t h1 h2 => by omega⟩
    | false =>
      rw [hq, cond_false] at h
      obtain ⟨a, b, c, d⟩ := ZR h
      refine ⟨by omega, by omega, c, fun t h1 h2 => ?_⟩
      rcases Nat.eq_or_lt_of_le h1 with rfl | h3
      · exact hq
      · exact d t h3 h2
def lbN (nm : V → List V) (l : List V) (t : List V) : Nat := (l.takeWhile fun x => nlt (nm x) t).length
def AscN (nm : V → List V) (l : List V) : Prop := ∀ i, i + 1 < l.length → nlt (nm (rd l i)) (nm (rd l (i + 1))) = true
theorem AscN.lt {nm : V → List V} {l : List V} (h : AscN nm l) : ∀ {j i : Nat}, i < j → j < l.length → nlt (nm (rd l i)) (nm (rd l j)) = true
  | 0, i, h1, _ => by omega
  | j + 1, i, h1, h2 => by
    rcases Nat.eq_or_lt_of_le (Nat.le_of_lt_succ h1) with rfl | h3
    · exact h i h2
    · exact nlt_trans (h.lt h3 (by omega)) (h j h2)
theorem rd_eq {l : List V} {i : Nat} (h : i < l.length) : rd l i = l[i] := by simp [rd, List.getD, h]
theorem takeWhile_spec {l : List V} {p : V → Bool} : (∀ i, i < (l.takeWhile p).length → p (rd l i) = true) ∧ ((l.takeWhile p).length < l.length → p (rd l (l.takeWhile p).length) = false) ∧ (l.takeWhile p).length ≤ l.length := by
  induction l with
  | nil => simp
  | cons x l ih =>
    obtain ⟨h1, h2, h3⟩ := ih
    rw [List.takeWhile_cons]
    cases hp : p x with
    | false => simp [rd, hp]
    | true =>
      simp only [if_true, List.length_cons]
      refine ⟨fun i hi => ?_, fun hlt => ?_, by omega⟩
      · cases i with
        | zero => simpa [rd] using hp
        | succ i => exact h1 i (by omega)
      · exact h2 (by omega)
theorem lbN_le (nm : V → List V) (l : List V) (t : List V) : lbN nm l t ≤ l.length := (takeWhile_spec (l := l)).2.2
theorem lbN_spec {nm : V → List V} {l : List V} (h : AscN nm l) (t : List V) : ∀ i, i < l.length → nlt (nm (rd l i)) t = decide (i < lbN nm l t) := by
  intro i hi
  obtain ⟨h1, h2, h3⟩ := takeWhile_spec (l := l) (p := fun x => nlt (nm x) t)
  by_cases hc : i < lbN nm l t
  · rw [decide_eq_true hc]; exact h1 i hc
  · rw [decide_eq_false hc]
    have h2 := h2 (by unfold lbN at hc; omega)
    rcases Nat.eq_or_lt_of_le (Nat.le_of_not_lt hc) with e | hlt
    · rw [← e]; exact h2
    · have hl : nlt (nm (rd l (lbN nm l t))) (nm (rd l i)) = true := h.lt hlt hi
      cases hh : nlt (nm (rd l i)) t with
      | false => rfl
      | true => have := nlt_trans hl hh; rw [show nlt (nm (rd l (lbN nm l t))) t = false from h2] at this; cases this
def hasN (nm : V → List V) (l : List V) (t : List V) : Bool := decide (lbN nm l t < l.length) && neq (nm (rd l (lbN nm l t))) t
theorem find_asc {nm : V → List V} {l : List V} (h : AscN nm l) (t : List V) : Zq (fun i => neq (nm (rd l i)) t) 0 l.length = bif hasN nm l t then some (lbN nm l t) else none := by
  have hs := lbN_spec h t
  have hle := lbN_le nm l t
  cases hf : Zq (fun i => neq (nm (rd l i)) t) 0 l.length with
  | none =>
    rw [firstI_none] at hf
    have : hasN nm l t = false := by
      unfold hasN
      by_cases hc : lbN nm l t < l.length
      · rw [hf _ (by omega) (by omega)]; simp
      · simp [hc]
    rw [this]; rfl
  | some j =>
    obtain ⟨-, hj, hq, hb⟩ := ZR hf
    have hj : j < l.length := by omega
    have hnl : nlt (nm (rd l j)) t = false := by
      cases hh : nlt (nm (rd l j)) t with
      | false => rfl
      | true => rw [nlt_neq hh] at hq; cases hq
    rw [hs j hj, decide_eq_false_iff_not] at hnl
    have hjl : j = lbN nm l t := by
      rcases Nat.eq_or_lt_of_le (Nat.le_of_not_lt hnl) with e | hlt
      · exact e.symm
      · have := h.lt hlt hj
        rw [nlt_congr_r hq, hs _ (by omega), decide_eq_true_eq] at this
        omega
    have : hasN nm l t = true := by
      unfold hasN
      rw [← hjl]; simp [hj, hq]
    rw [this, hjl]; rfl
end Go.Eng
namespace Go.Eng
section
variable {P : Program} {tab : Tab}
theorem RowT.soft {w : World} {ok : Nat → Prop} {T : TypeId} {els : List V} {v : Value} {nest : List Nat} (h : RowT tab w ok T true els v nest) : RowT tab w (fun g => ok g ∨ g ∈ nest) T false els v [] := by
  obtain ⟨ty, xs, ht, hr, hs, he⟩ := h
  rcases he with ⟨-, F, rfl, he⟩ | ⟨ho, -⟩
  · exact ⟨ty, xs, ht, hr, hs, .inr ⟨rfl, rfl, fun i j hi hj => (he i j hi hj).tree fun g hg => .inr (mem_flatF.2 ⟨i, hi, j, hj, hg⟩)⟩⟩
  · cases ho
theorem after_soft {w w' : World} {ok : Nat → Prop} {args args' : List V} {vals : List Value} {t n m n' : List Nat} {r : V × List V} {val : Value}
    (h : After tab w (fun g => ok g ∨ g ∈ m) args vals t n r val w') (hn : ∀ g, g ∈ n ∨ g ∈ m → g ∈ n')
    (hO : ∀ (R : V → Value → List Nat → List Nat → Prop) ot on, OutL R (Za3 args vals) r.2 ot on → OutL R (Za3 args' vals) r.2 ot on) : After tab w ok args' vals t n' r val w' := by
  obtain ⟨rt, rn, ot, on, h1, h2, h3, h4, h5, h6, h7⟩ := h
  have hk : ∀ g, (((ok g ∨ g ∈ m) ∨ g ∈ t ++ n ∨ w.heap.size ≤ g) ∧ g < w'.heap.size ∧ g ∉ ot ++ rt) → ((ok g ∨ g ∈ t ++ n' ∨ w.heap.size ≤ g) ∧ g < w'.heap.size ∧ g ∉ ot ++ rt) := by
    rintro g ⟨a, b, c⟩
    refine ⟨?_, b, c⟩
    rcases a with (a | a) | a | a
    · exact .inl a
    · exact .inr (.inl (List.mem_append_right _ (hn g (.inr a))))
    · rcases List.mem_append.1 a with a | a
      · exact .inr (.inl (List.mem_append_left _ a))
      · exact .inr (.inl (List.mem_append_right _ (hn g (.inl a))))
    · exact .inr (.inr a)
  refine ⟨rt, rn, ot, on, h1.keep hk, hO _ _ _ (h2.mono fun y _ v t n hy => hy.keep hk), h3, h4, fun g hg => ?_, h6, h7⟩
  rcases h5 g hg with a | a
  · rcases List.mem_append.1 a with a | a
    · exact .inl (List.mem_append_left _ a)
    · exact .inl (List.mem_append_right _ (hn g (.inl a)))
  · exact .inr a
theorem outL_dead2 {R : V → Value → List Nat → List Nat → Prop} {a b a' b' : V} {v u : Value} {ot on : List Nat} (h : OutL R [(a, v), (b, u)] [.dead, .dead] ot on) : OutL R [(a', v), (b', u)] [.dead, .dead] ot on := by
  cases h with | cons h1 h2 h3 =>
  cases h3 with | cons h4 h5 h6 =>
  cases h6
  exact .cons trivial h2 (.cons trivial h5 .nil)
theorem sum_ins_soft {f : FuncId} {T : TypeId} {ty : Ty} {o1 o2 : Bool} {l x r : List V} {i : Int} (ht : tab T = some ty) (hI : InsOk P f T ty.kinds.length ty.bytes) (hv : insV ty.bytes l i x = some r) :
    SumOk P tab f [.rr T o1 l, .int .i64 i, .rr T o2 x] (.rr T (o1 && o2) r, [.dead, .dead]) := by
  have e0 := sum_ins (P := P) (own := false) ht hI hv
  have e1 := sum_ins (P := P) (own := true) ht hI hv
  cases o1 <;> cases o2
  · exact e0
  · intro w ok vals t n hrq hnd hok hlt
    cases hrq with | @cons _ v t1 n1 _ vs1 ts1 ns1 hx hxs =>
    cases hxs with | @cons _ v2 t2 n2 _ vs2 ts2 ns2 hx2 hxs =>
    cases hxs with | @cons _ v3 t3 n3 _ vs3 ts3 ns3 hx3 hxs =>
    cases hxs
    obtain ⟨hrow3, rfl⟩ := rq_rr hx3
    have hI1 : RqL (Rq2 tab w (fun g => ok g ∨ g ∈ n3)) [.rr T false l, .int .i64 i, .rr T false x] [v, v2, v3] (t1 ++ (t2 ++ (Zo v3 ++ []))) (n1 ++ (n2 ++ ([] ++ []))) :=
      .cons (hx.keep fun _ h => .inl h) (.cons (hx2.keep fun _ h => .inl h) (.cons (.one (.row hrow3.soft)) .nil))
    obtain ⟨hd1, hd2, hd3⟩ := List.nodup_append.1 hnd
    have hsub : (n1 ++ (n2 ++ (([] : List Nat) ++ []))).Sublist (n1 ++ (n2 ++ (n3 ++ []))) := (List.Sublist.refl _).append ((List.Sublist.refl _).append ((List.nil_sublist _).append (List.Sublist.refl _)))
    refine Calls.mono (e0 w (fun g => ok g ∨ g ∈ n3) [v, v2, v3] _ _ hI1 (((List.Sublist.refl _).append hsub).nodup hnd) (fun g hg => ?_) fun g hg => hlt g (((List.Sublist.refl _).append hsub).mem hg)) ?_
    · rcases hg with hg | hg
      · exact hok g hg
      · have hm : g ∈ n1 ++ (n2 ++ (n3 ++ [])) := by simp [hg]
        exact ⟨hlt g (List.mem_append_right _ hm), fun ht' => hd3 g ht' g hm rfl⟩
    · rintro e w' ⟨val, he, ha⟩
      exact ⟨val, he, after_soft ha (n' := n1 ++ (n2 ++ (n3 ++ []))) (fun g hg => hg.elim (fun a => hsub.mem a) fun a => by simp [a]) fun R ot on h => outL_dead2 h⟩
  · intro w ok vals t n hrq hnd hok hlt
    cases hrq with | @cons _ v t1 n1 _ vs1 ts1 ns1 hx hxs =>
    cases hxs with | @cons _ v2 t2 n2 _ vs2 ts2 ns2 hx2 hxs =>
    cases hxs with | @cons _ v3 t3 n3 _ vs3 ts3 ns3 hx3 hxs =>
    cases hxs
    obtain ⟨hrow, rfl⟩ := rq_rr hx
    have hI1 : RqL (Rq2 tab w (fun g => ok g ∨ g ∈ n1)) [.rr T false l, .int .i64 i, .rr T false x] [v, v2, v3] (Zo v ++ (t2 ++ (t3 ++ []))) ([] ++ (n2 ++ (n3 ++ []))) :=
      .cons (.one (.row hrow.soft)) (.cons (hx2.keep fun _ h => .inl h) (.cons (hx3.keep fun _ h => .inl h) .nil))
    obtain ⟨hd1, hd2, hd3⟩ := List.nodup_append.1 hnd
    have hsub : (([] : List Nat) ++ (n2 ++ (n3 ++ []))).Sublist (n1 ++ (n2 ++ (n3 ++ []))) := (List.nil_sublist _).append (List.Sublist.refl _)
    refine Calls.mono (e0 w (fun g => ok g ∨ g ∈ n1) [v, v2, v3] _ _ hI1 (((List.Sublist.refl _).append hsub).nodup hnd) (fun g hg => ?_) fun g hg => hlt g (((List.Sublist.refl _).append hsub).mem hg)) ?_
    · rcases hg with hg | hg
      · exact hok g hg
      · have hm : g ∈ n1 ++ (n2 ++ (n3 ++ [])) := List.mem_append_left _ hg
        exact ⟨hlt g (List.mem_append_right _ hm), fun ht' => hd3 g ht' g hm rfl⟩
    · rintro e w' ⟨val, he, ha⟩
      exact ⟨val, he, after_soft ha (n' := n1 ++ (n2 ++ (n3 ++ []))) (fun g hg => hg.elim (fun a => hsub.mem a) fun a => List.mem_append_left _ a) fun R ot on h => outL_dead2 h⟩
  · exact e1
def enIns2 (hB : Base P tab) {f : FuncId} {fn : Func} (hf : P.funcs[f]? = some fn) (hb : (!(fn.name == "runtime.NumGoroutine") && fn.body.isSome) = true) (T : TypeId) {ty : Ty} (ht : tab T = some ty) (o1 o2 : Bool) (bytes : Nat) (hbytes : ty.bytes = bytes) (hI : InsOk P f T ty.kinds.length ty.bytes) (par : List (Option TypeId)) : En P tab :=
  { f := f
    s := fun a => bif Za5 [.one (.rr T o1), .one (.int .i64), .one (.rr T o2)] a then some ((insV bytes (rd a 0).L (rd a 1).I (rd a 2).L).isSome, (V.rr T (o1 && o2) ((insV bytes (rd a 0).L (rd a 1).I (rd a 2).L).getD default), [V.dead, V.dead])) else none
    ok := by
      intro args r h
      cases hs : Za5 [.one (.rr T o1), .one (.int .i64), .one (.rr T o2)] args with
      | false => rw [hs] at h; cases h
      | true =>
        rw [hs] at h
        simp only [cond_true, Option.some.injEq, Prod.mk.injEq] at h
        obtain ⟨h1, h2⟩ := h
        obtain ⟨x, hx⟩ := Option.isSome_iff_exists.1 h1
        rw [hx] at h2
        have ha := ZcD (pre := []) hs
        simp only [List.nil_append, List.length_nil, argsMk, S2.mk, S1.mk] at ha
        rw [← ha, ← h2]
        subst hbytes
        exact sum_ins_soft ht hI hx
    en := ZbQ hf hb, par := par, wr := true }
end
end Go.Eng
open Go Go.Eng
namespace Go.Eng.R
def chunks : List (List (Option Ty)) := [
  [none,
   some ⟨[.fn], false, none, [], 8⟩,
   some ⟨[.int .i64], false, none, [], 8⟩,
   some ⟨[.int .i64], false, none, [], 8⟩,
   some ⟨[.bool], false, none, [], 1⟩,
   some ⟨[.int .u8], false, none, [], 1⟩,
   some ⟨[.int .u8], false, none, [], 1⟩,
   some ⟨[.int .i64, .int .i64, .bool, .int .u8], true, none, [(0, 2), (1, 3), (2, 4), (3, 6)], 24⟩,
   some ⟨[.int .i64, .int .i64, .bool, .int .u8], true, none, [(0, 2), (1, 3), (2, 4), (3, 6)], 24⟩,
   some ⟨[.str], false, none, [], 16⟩,
   some ⟨[.str], false, none, [], 16⟩,
   some ⟨[.str], false, none, [], 16⟩,
   some ⟨[.int .u64], false, none, [], 8⟩,
   some ⟨[.str, .int .u64], true, none, [(0, 9), (1, 12)], 24⟩,
   some ⟨[.str, .int .u64], true, none, [(0, 9), (1, 12)], 24⟩,
   some ⟨[.ptr], false, none, [], 8⟩],
  [some ⟨[.ptr], false, none, [], 8⟩,
   some ⟨[.ptr], false, none, [], 8⟩,
   some ⟨[.ptr], true, none, [(0, 17)], 8⟩,
   some ⟨[.ptr], true, none, [(0, 17)], 8⟩,
   none,
   some ⟨[.int .i32], false, none, [], 4⟩,
   some ⟨[.sl 5], false, some 5, [], 24⟩,
   some ⟨[.sl 55], false, some 55, [], 24⟩,
   some ⟨[.sl 98], false, some 98, [], 24⟩,
   some ⟨[.sl 53], false, some 53, [], 24⟩,
   some ⟨[.sl 57], false, some 57, [], 24⟩,
   some ⟨[.int .i64, .sl 55, .sl 98, .int .i64, .sl 53, .sl 57], true, none, [(0, 3), (1, 23), (2, 24), (3, 3), (4, 25), (5, 26)], 112⟩,
   some ⟨[.int .i64, .sl 55, .sl 98, .int .i64, .sl 53, .sl 57], true, none, [(0, 3), (1, 23), (2, 24), (3, 3), (4, 25), (5, 26)], 112⟩,
   some ⟨[.int .i64, .sl 5, .sl 5, .int .i64], true, none, [(0, 3), (1, 22), (2, 22), (3, 3)], 64⟩,
   some ⟨[.int .i64, .sl 5, .sl 5, .int .i64], true, none, [(0, 3), (1, 22), (2, 22), (3, 3)], 64⟩,
   some ⟨[.int .i64, .int .i64, .int .i64, .sl 5, .sl 5, .int .i64], true, none, [(0, 3), (1, 3), (2, 30)], 80⟩],
  [some ⟨[.int .i64, .int .i64, .int .i64, .sl 5, .sl 5, .int .i64], true, none, [(0, 3), (1, 3), (2, 30)], 80⟩,
   none,
   some ⟨[.fn], false, none, [], 8⟩,
   some ⟨[.int .i64, .int .i64], true, none, [(0, 3), (1, 3)], 16⟩,
   some ⟨[.int .i64, .int .i64], true, none, [(0, 3), (1, 3)], 16⟩,
   none,
   some ⟨[.fn], false, none, [], 8⟩,
   some ⟨[.fn], false, none, [], 8⟩,
   some ⟨[.int .i64, .bool, .sl 5], true, none, [(0, 3), (1, 4), (2, 22)], 40⟩,
   some ⟨[.int .i64, .bool, .sl 5], true, none, [(0, 3), (1, 4), (2, 22)], 40⟩,
   some ⟨[.fn], false, none, [], 8⟩,
   some ⟨[.fn], false, none, [], 8⟩,
   some ⟨[.fn], false, none, [], 8⟩,
   none,
   some ⟨[.fn], false, none, [], 8⟩,
   none],
  [some ⟨[.fn], false, none, [], 8⟩,
   some ⟨[.fn], false, none, [], 8⟩,
   some ⟨[.sl 22], false, some 22, [], 24⟩,
   some ⟨[.fn], false, none, [], 8⟩,
   some ⟨[.int .i64, .bool], true, none, [(0, 3), (1, 4)], 16⟩,
   some ⟨[.int .i64, .bool], true, none, [(0, 3), (1, 4)], 16⟩,
   some ⟨[.sl 5, .sl 5, .int .i64, .int .i64], true, none, [(0, 22), (1, 22), (2, 3), (3, 3)], 64⟩,
   some ⟨[.sl 5, .sl 5, .int .i64, .int .i64], true, none, [(0, 22), (1, 22), (2, 3), (3, 3)], 64⟩,
   some ⟨[.int .i64, .int .i64, .int .i64, .int .i64], true, none, [(0, 3), (1, 3), (2, 36)], 32⟩,
   some ⟨[.int .i64, .int .i64, .int .i64, .int .i64], true, none, [(0, 3), (1, 3), (2, 36)], 32⟩,
   none,
   some ⟨[.fn], false, none, [], 8⟩,
   some ⟨[.sl 9], false, some 9, [], 24⟩,
   some ⟨[.fn], false, none, [], 8⟩,
   some ⟨[.fn], false, none, [], 8⟩,
   some ⟨[.fn], false, none, [], 8⟩],
  [some ⟨[.fn], false, none, [], 8⟩,
   some ⟨[.ptr], false, none, [], 8⟩,
   some ⟨[.fn], false, none, [], 8⟩,
   some ⟨[.fn], false, none, [], 8⟩,
   some ⟨[.fn], false, none, [], 8⟩,
   some ⟨[.fn], false, none, [], 8⟩,
   some ⟨[.fn], false, none, [], 8⟩,
   some ⟨[.fn], false, none, [], 8⟩,
   some ⟨[.fn], false, none, [], 8⟩,
   some ⟨[.sl 78], false, some 78, [], 24⟩,
   some ⟨[.fn], false, none, [], 8⟩,
   some ⟨[.fn], false, none, [], 8⟩,
   some ⟨[.fn], false, none, [], 8⟩,
   some ⟨[.int .i64, .int .i64, .int .i64, .int .i64, .sl 5, .sl 5, .int .i64, .sl 5], true, none, [(0, 3), (1, 3), (2, 3), (3, 30), (7, 22)], 112⟩,
   some ⟨[.int .i64, .int .i64, .int .i64, .int .i64, .sl 5, .sl 5, .int .i64, .sl 5], true, none, [(0, 3), (1, 3), (2, 3), (3, 30), (7, 22)], 112⟩,
   some ⟨[.sl 205], false, some 205, [], 24⟩],
  [some ⟨[.sl 89], false, some 89, [], 24⟩,
   some ⟨[.sl 91], false, some 91, [], 24⟩,
   some ⟨[.sl 136], false, some 136, [], 24⟩,
   some ⟨[.sl 28], false, some 28, [], 24⟩,
   some ⟨[.sl 4], false, some 4, [], 24⟩,
   some ⟨[.bool, .bool, .sl 205, .sl 89, .sl 91, .sl 91, .sl 136, .sl 28, .sl 4, .int .i64, .int .i64], true, none, [(0, 4), (1, 4), (2, 79), (3, 80), (4, 81), (5, 81), (6, 82), (7, 83), (8, 84), (9, 3), (10, 3)], 192⟩,
   some ⟨[.bool, .bool, .sl 205, .sl 89, .sl 91, .sl 91, .sl 136, .sl 28, .sl 4, .int .i64, .int .i64], true, none, [(0, 4), (1, 4), (2, 79), (3, 80), (4, 81), (5, 81), (6, 82), (7, 83), (8, 84), (9, 3), (10, 3)], 192⟩,
   some ⟨[.fn], false, none, [], 8⟩,
   some ⟨[.int .i64, .int .i64, .int .i64, .sl 5, .sl 5, .int .i64, .int .i64, .int .i64, .int .i64, .int .i64], true, none, [(0, 3), (1, 3), (2, 30), (6, 3), (7, 3), (8, 36)], 112⟩,
   some ⟨[.int .i64, .int .i64, .int .i64, .sl 5, .sl 5, .int .i64, .int .i64, .int .i64, .int .i64, .int .i64], true, none, [(0, 3), (1, 3), (2, 30), (6, 3), (7, 3), (8, 36)], 112⟩,
   some ⟨[.int .i64, .int .i64, .sl 5, .int .i64, .int .i64, .int .i64, .bool, .sl 5], true, none, [(0, 3), (1, 3), (2, 22), (3, 3), (4, 3), (5, 41)], 96⟩,
   some ⟨[.int .i64, .int .i64, .sl 5, .int .i64, .int .i64, .int .i64, .bool, .sl 5], true, none, [(0, 3), (1, 3), (2, 22), (3, 3), (4, 3), (5, 41)], 96⟩,
   some ⟨[.fn], false, none, [], 8⟩,
   some ⟨[.fn], false, none, [], 8⟩,
   some ⟨[.fn], false, none, [], 8⟩,
   some ⟨[.fn], false, none, [], 8⟩],
  [some ⟨[.fn], false, none, [], 8⟩,
   some ⟨[.sl 5, .int .i64], true, none, [(0, 22), (1, 3)], 32⟩,
   some ⟨[.sl 5, .int .i64], true, none, [(0, 22), (1, 3)], 32⟩,
   some ⟨[.fn], false, none, [], 8⟩,
   some ⟨[.fn], false, none, [], 8⟩,
   some ⟨[.fn], false, none, [], 8⟩,
   some ⟨[.fn], false, none, [], 8⟩,
   some ⟨[.fn], false, none, [], 8⟩,
   some ⟨[.sl 5, .int .i64, .int .i64], true, none, [(0, 22), (1, 3), (2, 3)], 40⟩,
   some ⟨[.sl 5, .int .i64, .int .i64], true, none, [(0, 22), (1, 3), (2, 3)], 40⟩,
   some ⟨[.fn], false, none, [], 8⟩,
   some ⟨[.sl 3], false, some 3, [], 24⟩,
   some ⟨[.fn], false, none, [], 8⟩,
   some ⟨[.fn], false, none, [], 8⟩,
   some ⟨[.fn], false, none, [], 8⟩,
   some ⟨[.fn], false, none, [], 8⟩],
  [none,
   some ⟨[.fn], false, none, [], 8⟩,
   some ⟨[.fn], false, none, [], 8⟩,
   some ⟨[.fn], false, none, [], 8⟩,
   some ⟨[.fn], false, none, [], 8⟩,
   some ⟨[.fn], false, none, [], 8⟩,
   some ⟨[.fn], false, none, [], 8⟩,
   some ⟨[.fn], false, none, [], 8⟩,
   some ⟨[.fn], false, none, [], 8⟩,
   some ⟨[.ptr], false, none, [], 8⟩,
   some ⟨[.fn], false, none, [], 8⟩,
   some ⟨[.fn], false, none, [], 8⟩,
   some ⟨[.fn], false, none, [], 8⟩,
   some ⟨[.fn], false, none, [], 8⟩,
   some ⟨[.ptr], false, none, [], 8⟩,
   some ⟨[.fn], false, none, [], 8⟩],
  [some ⟨[.sl 133], false, some 133, [], 24⟩,
   some ⟨[.sl 176], false, some 176, [], 24⟩,
   some ⟨[.sl 133, .sl 3, .sl 3, .sl 176, .int .i64, .bool, .bool, .sl 205, .sl 89, .sl 91, .sl 91, .sl 136, .sl 28, .sl 4, .int .i64, .int .i64], true, none, [(0, 128), (1, 107), (2, 107), (3, 129), (4, 3), (5, 86)], 296⟩,
   some ⟨[.sl 133, .sl 3, .sl 3, .sl 176, .int .i64, .bool, .bool, .sl 205, .sl 89, .sl 91, .sl 91, .sl 136, .sl 28, .sl 4, .int .i64, .int .i64], true, none, [(0, 128), (1, 107), (2, 107), (3, 129), (4, 3), (5, 86)], 296⟩,
   some ⟨[.fn], false, none, [], 8⟩,
   some ⟨[.ptr], false, none, [], 8⟩,
   some ⟨[.sl 185], false, some 185, [], 24⟩,
   some ⟨[.int .i64, .int .i64, .int .i64, .sl 185, .int .i64, .int .i64, .int .i64, .int .i64, .sl 4, .sl 3, .sl 3], true, none, [(0, 3), (1, 3), (2, 3), (3, 134), (4, 3), (5, 3), (6, 3), (7, 3), (8, 84), (9, 107), (10, 107)], 152⟩,
   some ⟨[.int .i64, .int .i64, .int .i64, .sl 185, .int .i64, .int .i64, .int .i64, .int .i64, .sl 4, .sl 3, .sl 3], true, none, [(0, 3), (1, 3), (2, 3), (3, 134), (4, 3), (5, 3), (6, 3), (7, 3), (8, 84), (9, 107), (10, 107)], 152⟩,
   some ⟨[.sl 160], false, some 160, [], 24⟩,
   some ⟨[.int .i64, .int .i64, .int .i64, .sl 185, .int .i64, .int .i64, .int .i64, .int .i64, .sl 4, .sl 3, .sl 3, .int .i64, .sl 55, .sl 98, .int .i64, .sl 53, .sl 57, .int .i64, .bool, .sl 160], true, none, [(0, 136), (11, 28), (17, 3), (18, 4), (19, 137)], 304⟩,
   some ⟨[.int .i64, .int .i64, .int .i64, .sl 185, .int .i64, .int .i64, .int .i64, .int .i64, .sl 4, .sl 3, .sl 3, .int .i64, .sl 55, .sl 98, .int .i64, .sl 53, .sl 57, .int .i64, .bool, .sl 160], true, none, [(0, 136), (11, 28), (17, 3), (18, 4), (19, 137)], 304⟩,
   some ⟨[.fn], false, none, [], 8⟩,
   some ⟨[.fn], false, none, [], 8⟩,
   some ⟨[.fn], false, none, [], 8⟩,
   some ⟨[.fn], false, none, [], 8⟩],
  [some ⟨[.fn], false, none, [], 8⟩,
   some ⟨[.int .u64], false, none, [], 8⟩,
   some ⟨[.fn], false, none, [], 8⟩,
   some ⟨[.fn], false, none, [], 8⟩,
   some ⟨[.fn], false, none, [], 8⟩,
   some ⟨[.fn], false, none, [], 8⟩,
   some ⟨[.fn], false, none, [], 8⟩,
   some ⟨[.fn], false, none, [], 8⟩,
   some ⟨[.fn], false, none, [], 8⟩,
   some ⟨[.fn], false, none, [], 8⟩,
   some ⟨[.fn], false, none, [], 8⟩,
   none,
   some ⟨[.fn], false, none, [], 8⟩,
   some ⟨[.fn], false, none, [], 8⟩,
   some ⟨[.fn], false, none, [], 8⟩,
   some ⟨[.sl 5, .int .i64], true, none, [(0, 22), (1, 3)], 32⟩],
  [some ⟨[.sl 5, .int .i64], true, none, [(0, 22), (1, 3)], 32⟩,
   some ⟨[.fn], false, none, [], 8⟩,
   some ⟨[.fn], false, none, [], 8⟩,
   some ⟨[.fn], false, none, [], 8⟩,
   some ⟨[.fn], false, none, [], 8⟩,
   some ⟨[.fn], false, none, [], 8⟩,
   some ⟨[.fn], false, none, [], 8⟩,
   some ⟨[.fn], false, none, [], 8⟩,
   some ⟨[.fn], false, none, [], 8⟩,
   some ⟨[.fn], false, none, [], 8⟩,
   some ⟨[.fn], false, none, [], 8⟩,
   some ⟨[.fn], false, none, [], 8⟩,
   some ⟨[.fn], false, none, [], 8⟩,
   some ⟨[.int .i64, .int .i64, .int .i64, .int .i64, .int .i64, .int .i64, .sl 185, .int .i64, .bool], true, none, [(0, 3), (1, 3), (2, 3), (3, 3), (4, 3), (5, 3), (6, 134), (7, 3), (8, 4)], 88⟩,
   some ⟨[.int .i64, .int .i64, .int .i64, .int .i64, .int .i64, .int .i64, .sl 185, .int .i64, .bool], true, none, [(0, 3), (1, 3), (2, 3), (3, 3), (4, 3), (5, 3), (6, 134), (7, 3), (8, 4)], 88⟩,
   some ⟨[.int .i64, .int .i64, .int .i64, .int .i64, .int .i64, .int .i64, .int .i64, .sl 185, .int .i64, .bool, .int .i64, .int .i64, .int .i64, .int .i64, .sl 5, .sl 5, .int .i64, .int .i64, .int .i64, .int .i64, .int .i64], true, none, [(0, 3), (1, 174), (10, 3), (11, 32), (17, 3), (18, 3), (19, 36)], 216⟩],
  [some ⟨[.int .i64, .int .i64, .int .i64, .int .i64, .int .i64, .int .i64, .int .i64, .sl 185, .int .i64, .bool, .int .i64, .int .i64, .int .i64, .int .i64, .sl 5, .sl 5, .int .i64, .int .i64, .int .i64, .int .i64, .int .i64], true, none, [(0, 3), (1, 174), (10, 3), (11, 32), (17, 3), (18, 3), (19, 36)], 216⟩,
   some ⟨[.fn], false, none, [], 8⟩,
   some ⟨[.fn], false, none, [], 8⟩,
   some ⟨[.ptr], false, none, [], 8⟩,
   some ⟨[.fn], false, none, [], 8⟩,
   some ⟨[.fn], false, none, [], 8⟩,
   some ⟨[.ptr], false, none, [], 8⟩,
   some ⟨[.fn], false, none, [], 8⟩,
   some ⟨[.int .i64, .int .i64, .int .i64, .int .i64, .sl 5, .sl 5, .int .i64], true, none, [(0, 3), (1, 32)], 88⟩,
   some ⟨[.int .i64, .int .i64, .int .i64, .int .i64, .sl 5, .sl 5, .int .i64], true, none, [(0, 3), (1, 32)], 88⟩,
   some ⟨[.fn], false, none, [], 8⟩,
   some ⟨[.fn], false, none, [], 8⟩,
   some ⟨[.fn], false, none, [], 8⟩,
   some ⟨[.fn], false, none, [], 8⟩,
   some ⟨[.fn], false, none, [], 8⟩,
   some ⟨[.fn], false, none, [], 8⟩],
  [some ⟨[.fn], false, none, [], 8⟩,
   some ⟨[.fn], false, none, [], 8⟩,
   some ⟨[.sl 174], false, some 174, [], 24⟩,
   some ⟨[.int .i64, .int .i64, .int .i64, .sl 185, .int .i64, .int .i64, .int .i64, .int .i64, .sl 4, .sl 3, .sl 3, .sl 174], true, none, [(0, 136), (11, 194)], 176⟩,
   some ⟨[.int .i64, .int .i64, .int .i64, .sl 185, .int .i64, .int .i64, .int .i64, .int .i64, .sl 4, .sl 3, .sl 3, .sl 174], true, none, [(0, 136), (11, 194)], 176⟩,
   some ⟨[.fn], false, none, [], 8⟩,
   some ⟨[.fn], false, none, [], 8⟩,
   some ⟨[.fn], false, none, [], 8⟩,
   some ⟨[.fn], false, none, [], 8⟩,
   some ⟨[.fn], false, none, [], 8⟩,
   some ⟨[.fn], false, none, [], 8⟩,
   some ⟨[.fn], false, none, [], 8⟩,
   some ⟨[.int .i64, .int .i64, .int .i64, .int .i64, .sl 5, .sl 5, .int .i64], true, none, [(0, 3), (1, 32)], 88⟩,
   some ⟨[.int .i64, .int .i64, .int .i64, .int .i64, .sl 5, .sl 5, .int .i64], true, none, [(0, 3), (1, 32)], 88⟩,
   some ⟨[.fn], false, none, [], 8⟩,
   some ⟨[.fn], false, none, [], 8⟩],
  [some ⟨[.fn], false, none, [], 8⟩,
   some ⟨[.fn], false, none, [], 8⟩,
   some ⟨[.ptr, .ptr, .ptr, .str], true, none, [(0, 17), (1, 17), (2, 17), (3, 9)], 40⟩,
   some ⟨[.ptr, .ptr, .ptr, .str], true, none, [(0, 17), (1, 17), (2, 17), (3, 9)], 40⟩,
   none,
   none,
   none,
   some ⟨[.int .u32], false, none, [], 4⟩,
   some ⟨[.int .u8], false, none, [], 1⟩,
   some ⟨[.int .u8], false, none, [], 1⟩,
   some ⟨[.fn], false, none, [], 8⟩,
   some ⟨[.ptr], false, none, [], 8⟩,
   some ⟨[.int .i32], false, none, [], 4⟩,
   some ⟨[.int .i32], false, none, [], 4⟩,
   some ⟨[.int .u64, .int .u64, .int .u32, .int .u8, .int .u8, .int .u8, .int .u8, .fn, .ptr, .int .i32, .int .i32], true, none, [(0, 12), (1, 12), (2, 215), (3, 216), (4, 5), (5, 5), (6, 217), (7, 218), (8, 219), (9, 220), (10, 221)], 48⟩,
   some ⟨[.int .u64, .int .u64, .int .u32, .int .u8, .int .u8, .int .u8, .int .u8, .fn, .ptr, .int .i32, .int .i32], true, none, [(0, 12), (1, 12), (2, 215), (3, 216), (4, 5), (5, 5), (6, 217), (7, 218), (8, 219), (9, 220), (10, 221)], 48⟩],
  [none,
   none,
   none,
   none,
   none,
   none,
   none,
   none,
   none,
   none,
   none,
   none,
   none,
   none,
   none,
   none]]
def tab : Tab := tabOf chunks
abbrev t_int' : TypeId := 3
abbrev Zb : TypeId := 5
abbrev t_sl_byte : TypeId := 22
abbrev Zl : TypeId := 28
abbrev t_impl_Cmd : TypeId := 32
abbrev ZdG : TypeId := 36
abbrev Zd : TypeId := 53
abbrev Zg : TypeId := 55
abbrev Ze : TypeId := 57
abbrev Zf : TypeId := 98
abbrev ZC : TypeId := 105
def Zc (x : V) : V := .agg [.int .i64 (gi x 0), .inl Zg (gl x 1), .inl Zf (gl x 2), .int .i64 (gi x 3), .inl Zd (gl x 4), .inl Ze (gl x 5)]
def n_impl_Op (x : V) : V := .agg [.int .i64 (gi x 0), .inl Zb (gl x 1), .inl Zb (gl x 2), .int .i64 (gi x 3)]
def Zn (x : V) : V := .agg [.int .i64 (gi x 0), .int .i64 (gi x 1), .int .i64 (gi x 2), .inl Zb (gl x 3), .inl Zb (gl x 4), .int .i64 (gi x 5)]
def Zy (x : V) : V := .agg [.int .i64 (gi x 0), .int .i64 (gi x 1)]
def Zdd (x : V) : V := .agg [.int .i64 (gi x 0), .bool (gb x 1), .inl Zb (gl x 2)]
def Zcx (x : V) : V := .agg [.int .i64 (gi x 0), .bool (gb x 1)]
def n_impl_Row (x : V) : V := .agg [.inl Zb (gl x 0), .inl Zb (gl x 1), .int .i64 (gi x 2), .int .i64 (gi x 3)]
def ZdT (x : V) : V := .agg [.int .i64 (gi x 0), .int .i64 (gi x 1), .int .i64 (gi x 2), .int .i64 (gi x 3)]
def n_impl_Tomb (x : V) : V := .agg [.inl Zb (gl x 0), .int .i64 (gi x 1)]
def Za (x : V) : V := .agg [.inl Zb (gl x 0), .int .i64 (gi x 1), .int .i64 (gi x 2)]
abbrev vi (n : Int) : V := .int .i64 n
abbrev vs (k : Nat) (T : TypeId) : V := .sl k T 0 none
abbrev aliveB : Bool := true
def noL : Loops := ⟨fun _ => [], fun _ => [], fun _ => [], runL [], [], fun _ => []⟩
theorem Zaz {cfg : Cfg} {fn : Func} : ZQ cfg noL (Z6 fn) := GoodAll.ok (l := []) GoodAll.nil rfl
end Go.Eng.R
